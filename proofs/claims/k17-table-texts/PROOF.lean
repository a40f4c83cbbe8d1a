import PyProof.Rows.All
import Wide.All
import OpenK.AllK
import Wide.FinOn
import KE.KStateDown
import Lean
import HandS.ForExc
import HandS.ForMost
import HandS.Text
import HandS.Style
import HandS.TupAny
import HandS.TupMul
import PyProof.ListStr
import PyProof.StrOps2
import HandS.IsInst
import HandS.Deep
import HandS.Replace
import HandS.Conv
import PyProof.StrLawsIn
import KE.KSortedM
import PyProof.CollectStr
import PyProof.Rows.SortShellAny
import KE.KTupSum
import HandS.ExcValue
import HandS.RaiseMore
import KE.GoesNew
import HandS.SetFor
import HandS.ExcIs
import HandS.Defaults
import PyProof.ExcBaseAll.ValueError
import HandS.Head0
import HandS.Head1
import HandS.Head2
import HandS.HeadEnd
import HandS.HeadHook1
import HandS.HeadHook2
import PySem.Challenge.RW_bindreads_k17_whole_table_texts
set_option Elab.async false
set_option linter.all false
set_option maxRecDepth 100000
set_option maxHeartbeats 0
/-! MP: a small reference interpreter over pure values. -/
namespace MP

/-! ### values, objects, heap -/
inductive PV where
  | non
  | bl (b : Bool)
  | int (i : Int)
  | str (s : List Nat)
  | tup (xs : List PV)
  | ref (r : Nat)

inductive LO where
  | lst (xs : List PV)
  | frz (xs : List PV)
  | dk (kvs : List (PV × PV))
  | dn (kvs : List (PV × PV))
  | ins (c : Nat) (fs : List (List Nat × PV))
  | exc (c : Nat)
  | st (xs : List PV)

inductive Tr where
  | nil
  | node (v : Option LO) (l r : Tr)
def Tr.get : Tr → Nat → Option LO
  | .nil, _ => none
  | .node v _ _, 0 => v
  | .node _ l r, n + 1 => if n % 2 = 0 then l.get (n / 2) else r.get (n / 2)
def Tr.parts : Tr → Option LO × Tr × Tr
  | .nil => (none, .nil, .nil)
  | .node v l r => (v, l, r)
def Tr.setF (o : LO) : Nat → Tr → Nat → Tr
  | 0, t, _ => t
  | k + 1, t, 0 => .node (some o) t.parts.2.1 t.parts.2.2
  | k + 1, t, n + 1 => if n % 2 = 0 then .node t.parts.1 (Tr.setF o k t.parts.2.1 (n / 2)) t.parts.2.2 else .node t.parts.1 t.parts.2.1 (Tr.setF o k t.parts.2.2 (n / 2))
structure Hq where
  n : Nat
  t : Tr
def Hq.get (h : Hq) (r : Nat) : Option LO := if r < h.n then h.t.get r else none
def Hq.set (h : Hq) (r : Nat) (o : LO) : Hq := ⟨h.n, Tr.setF o (r + 1) h.t r⟩
def Hq.push (h : Hq) (o : LO) : Hq := ⟨h.n + 1, Tr.setF o (h.n + 1) h.t h.n⟩

theorem Tr.get_parts (t : Tr) : t.get 0 = t.parts.1 ∧ ∀ n, t.get (n + 1) = if n % 2 = 0 then t.parts.2.1.get (n / 2) else t.parts.2.2.get (n / 2) := by
  cases t with
  | nil => exact ⟨rfl, fun n => by simp [Tr.get, Tr.parts]⟩
  | node v l r => exact ⟨rfl, fun n => rfl⟩
theorem Tr.get_setF (o : LO) : ∀ (k : Nat) (t : Tr) (n m : Nat), n < k → (Tr.setF o k t n).get m = if m = n then some o else t.get m
  | 0, _, _, _, h => absurd h (Nat.not_lt_zero _)
  | k + 1, t, 0, m, _ => by
    cases m with
    | zero => simp [Tr.setF, Tr.get]
    | succ m => rw [(Tr.get_parts t).2]; simp [Tr.setF, Tr.get]
  | k + 1, t, n + 1, m, h => by
    have hk : n / 2 < k := by omega
    unfold Tr.setF
    cases m with
    | zero =>
      rw [(Tr.get_parts t).1]
      by_cases e : n % 2 = 0
      · rw [if_pos e]; simp [Tr.get]
      · rw [if_neg e]; simp [Tr.get]
    | succ m =>
      rw [(Tr.get_parts t).2]
      by_cases e : n % 2 = 0
      · rw [if_pos e]
        show (if m % 2 = 0 then (Tr.setF o k t.parts.2.1 (n / 2)).get (m / 2) else t.parts.2.2.get (m / 2)) = _
        by_cases e2 : m % 2 = 0
        · rw [if_pos e2, if_pos e2, Tr.get_setF o k _ _ _ hk]
          by_cases e3 : m / 2 = n / 2
          · have : m = n := by omega
            rw [if_pos e3, if_pos (by omega)]
          · rw [if_neg e3, if_neg (by omega)]
        · rw [if_neg e2, if_neg e2, if_neg (by omega)]
      · rw [if_neg e]
        show (if m % 2 = 0 then t.parts.2.1.get (m / 2) else (Tr.setF o k t.parts.2.2 (n / 2)).get (m / 2)) = _
        by_cases e2 : m % 2 = 0
        · rw [if_pos e2, if_pos e2, if_neg (by omega)]
        · rw [if_neg e2, if_neg e2, Tr.get_setF o k _ _ _ hk]
          by_cases e3 : m / 2 = n / 2
          · rw [if_pos e3, if_pos (by omega)]
          · rw [if_neg e3, if_neg (by omega)]

theorem Hq.get_lt {h : Hq} {r : Nat} {o : LO} (e : h.get r = some o) : r < h.n := by
  unfold Hq.get at e
  by_cases q : r < h.n
  · exact q
  · rw [if_neg q] at e; cases e
@[simp] theorem Hq.set_n (h : Hq) (r : Nat) (o : LO) : (h.set r o).n = h.n := rfl
@[simp] theorem Hq.push_n (h : Hq) (o : LO) : (h.push o).n = h.n + 1 := rfl
theorem Hq.get_set (h : Hq) (r s : Nat) (o : LO) (hr : r < h.n) : (h.set r o).get s = if s = r then some o else h.get s := by
  show (if s < h.n then (Tr.setF o (r + 1) h.t r).get s else none) = _
  rw [Tr.get_setF o _ _ _ _ (Nat.lt_succ_self _)]
  unfold Hq.get
  by_cases e : s = r
  · rw [if_pos e, if_pos (by omega), if_pos e]
  · rw [if_neg e, if_neg e]
theorem Hq.get_push (h : Hq) (s : Nat) (o : LO) : (h.push o).get s = if s = h.n then some o else h.get s := by
  show (if s < h.n + 1 then (Tr.setF o (h.n + 1) h.t h.n).get s else none) = _
  rw [Tr.get_setF o _ _ _ _ (Nat.lt_succ_self _)]
  unfold Hq.get
  by_cases e : s = h.n
  · rw [if_pos e, if_pos (by omega), if_pos e]
  · rw [if_neg e, if_neg e]
    by_cases e2 : s < h.n
    · rw [if_pos (by omega), if_pos e2]
    · rw [if_neg (by omega), if_neg e2]

/-! ### results -/
inductive Res (α : Type) where
  | ret (a : α) (h : Hq)
  | exc (c : Nat) (h : Hq)
  | fail
def Res.bind {α β : Type} (t : Res α) (f : α → Hq → Res β) : Res β :=
  match t with
  | .ret a h => f a h
  | .exc c h => .exc c h
  | .fail => .fail
def Res.wp {α : Type} (t : Res α) (Q : α → Hq → Prop) (E : Nat → Hq → Prop) : Prop :=
  match t with
  | .ret a h => Q a h
  | .exc c h => E c h
  | .fail => False
@[simp] theorem Res.wp_ret {α : Type} (a : α) (h : Hq) (Q : α → Hq → Prop) (E : Nat → Hq → Prop) : (Res.ret a h).wp Q E = Q a h := rfl
@[simp] theorem Res.wp_exc {α : Type} (c : Nat) (h : Hq) (Q : α → Hq → Prop) (E : Nat → Hq → Prop) : (Res.exc c h : Res α).wp Q E = E c h := rfl
@[simp] theorem Res.wp_fail {α : Type} (Q : α → Hq → Prop) (E : Nat → Hq → Prop) : (Res.fail : Res α).wp Q E = False := rfl
@[simp] theorem Res.wp_bind {α β : Type} (t : Res α) (f : α → Hq → Res β) (Q : β → Hq → Prop) (E : Nat → Hq → Prop) : (t.bind f).wp Q E = t.wp (fun a h => (f a h).wp Q E) E := by
  cases t <;> rfl
theorem Res.wp_mono {α : Type} {t : Res α} {Q Q' : α → Hq → Prop} {E E' : Nat → Hq → Prop} (h : t.wp Q E) (hq : ∀ a h, Q a h → Q' a h) (he : ∀ c h, E c h → E' c h) : t.wp Q' E' := by
  cases t with
  | ret a h' => exact hq _ _ h
  | exc c h' => exact he _ _ h
  | fail => exact h
/-- an exception is not let out (inside comprehensions) -/
def Res.shut {α : Type} (t : Res α) : Res α :=
  match t with
  | .exc _ _ => .fail
  | t => t
theorem Res.wp_shut {α : Type} {t : Res α} {Q : α → Hq → Prop} {E E' : Nat → Hq → Prop} (h : t.shut.wp Q E) : t.wp Q E' := by
  cases t with
  | ret a h' => exact h
  | exc c h' => exact h.elim
  | fail => exact h

/-! ### syntax -/
inductive BOp where
  | add | sub | mul | fdiv | mod | pow
  deriving DecidableEq
inductive COp where
  | eq | ne | lt | le | gt | ge | isin | notin
  deriving DecidableEq
inductive Ty where
  | int | bool | str | list | tuple | cls (d n : Nat)
  deriving DecidableEq
inductive Bi where
  | len | list | tuple | sorted | all | min | max | sum | set | str | dict | listRange
  deriving DecidableEq
inductive Mt where
  | append | pop | indexL | indexS | join | split | countL | get | setdefault | remove
  deriving DecidableEq

inductive Tg where
  | name (i : Nat)
  | tup (ts : List Tg)

inductive E where
  | non
  | bl (b : Bool)
  | int (i : Int)
  | str (s : List Nat)
  | var (i : Nat)
  | gc (i : Nat)
  | bin (op : BOp) (a b : E)
  | neg (a : E)
  | nt (a : E)
  | and (es : List E)
  | or (es : List E)
  | cmp (op : COp) (a b : E)
  | isN (neg : Bool) (a : E)
  | isB (neg : Bool) (a : E) (b : Bool)
  | chain (p q : COp) (a b c : E)
  | ite (c a b : E)
  | tup (es : List E)
  | lst (es : List E)
  | dct (n : Bool) (ks vs : List E)
  | idx (a i : E)
  | slice (a lo hi : E)
  | rev (a : E)
  | attr (a : E) (f : List Nat)
  | call (f : Nat) (args : List E)
  | new (c f : Nat) (args : List E)
  | meth (c f : Nat) (m : List Nat) (o : E) (args : List E)
  | bi (b : Bi) (args : List E)
  | mt (m : Mt) (o : E) (args : List E)
  | isinst (a : E) (t : Ty)
  | comp (elt : E) (tg : Tg) (it : E) (ifs : List E) (own : List Nat)
  | range (args : List E)
  | enum (a : E)
  | zip (a b : E)
  | src (a : E)

inductive S where
  | asg (t : Tg) (e : E)
  | par (ts : List Nat) (es : List E)
  | seta (o : E) (f : List Nat) (e : E)
  | seti (o i e : E)
  | aug (i : Nat) (op : BOp) (e : E)
  | expr (e : E)
  | ret (e : E)
  | retN
  | ife (c : E) (a b : List S)
  | for (t : Tg) (it : E) (body : List S)
  | while (c : E) (body : List S)
  | raise (c : Nat)
  | pass
  | cont
  | try_ (i : Option Nat) (e : E) (n m ne : Nat)

structure Fn where
  np : Nat
  nl : Nat
  body : List S
structure Prog where
  fns : List Fn
  consts : List PV
  isa : Nat → Nat → Bool

abbrev Env := List (Option PV)
abbrev Call := Nat → List PV → Hq → Res PV
inductive Flow where
  | next
  | ret (v : PV)
  | cont
end MP

namespace MP
open PySem (PyData)
abbrev SL : Nat := 16777216

/-! ### small tools -/
def mapO {α β : Type} (f : α → Option β) : List α → Option (List β)
  | [] => some []
  | x :: r => match f x with
    | some y => match mapO f r with
      | some ys => some (y :: ys)
      | none => none
    | none => none
def toD (h : Hq) : Nat → PV → Option PyData
  | _, .non => some .none
  | _, .bl b => some (.bool b)
  | _, .int i => some (.int i)
  | _, .str s => some (.str ⟨s.toArray⟩)
  | 0, .tup _ => none
  | k + 1, .tup xs => (mapO (toD h k) xs).map .tuple
  | 0, .ref _ => none
  | k + 1, .ref r => match h.get r with
    | some (.lst xs) => (mapO (toD h k) xs).map .list
    | some (.frz xs) => (mapO (toD h k) xs).map .list
    | _ => none
def eqS (h : Hq) (v w : PV) : Option Bool :=
  match toD h 64 v with
  | some d => match toD h 64 w with
    | some e => some (PyData.eqv d e)
    | none => none
  | none => none
def ofB (h : Hq) : Option Bool → Res PV
  | some b => .ret (.bl b) h
  | none => .fail
def ofV (h : Hq) : Option PV → Res PV
  | some v => .ret v h
  | none => .fail
def getL (h : Hq) (r : Nat) : Option (List PV) := match h.get r with
  | some (.lst xs) => some xs
  | some (.frz xs) => some xs
  | _ => none
/-- a bound of a slice -/
def ixS (n d : Nat) : Option Int → Nat
  | none => d
  | some v => if v < 0 then (v + (n : Int)).toNat else min v.toNat n
def cut {α : Type} (xs : List α) (lo hi : Option Int) : List α := (xs.drop (ixS xs.length 0 lo)).take (ixS xs.length xs.length hi - ixS xs.length 0 lo)
/-- an item by a place of any sign -/
def at' {α : Type} (xs : List α) (i : Int) : Option α := if 0 ≤ i then xs[i.toNat]? else if -(xs.length : Int) ≤ i then xs[(i + xs.length).toNat]? else none
def optI : PV → Option (Option Int)
  | .non => some none
  | .int i => some (some i)
  | _ => none
def flat : PV → Bool
  | .non => true
  | .bl _ => true
  | .int _ => true
  | .str _ => true
  | _ => false
/-- == of flat values -/
def eqF : PV → PV → Bool
  | .non, .non => true
  | .bl a, .bl b => a == b
  | .bl a, .int b => (if a then 1 else 0) == b
  | .int a, .bl b => a == (if b then 1 else 0)
  | .int a, .int b => a == b
  | .str a, .str b => a == b
  | _, _ => false
def isKey : PV → Bool
  | .int _ => true
  | .str _ => true
  | _ => false
def keyEq : PV → PV → Bool
  | .int a, .int b => a == b
  | .str a, .str b => a == b
  | _, _ => false
def dGet (kvs : List (PV × PV)) (k : PV) : Option PV := (kvs.find? fun kv => keyEq kv.1 k).map (·.2)
def dPut (kvs : List (PV × PV)) (k v : PV) : List (PV × PV) :=
  if (kvs.any fun kv => keyEq kv.1 k) = true then kvs.map (fun kv => if keyEq kv.1 k = true then (kv.1, v) else kv) else kvs ++ [(k, v)]
def intsOf : List PV → Option (List Int)
  | [] => some []
  | .int i :: r => (intsOf r).map (i :: ·)
  | _ => none
def strsOf : List PV → Option (List (List Nat))
  | [] => some []
  | .str i :: r => (strsOf r).map (i :: ·)
  | _ => none
def blsOf : List PV → Option (List Bool)
  | [] => some []
  | .bl i :: r => (blsOf r).map (i :: ·)
  | _ => none
def insI (x : Int) : List Int → List Int
  | [] => [x]
  | y :: r => if x ≤ y then x :: y :: r else y :: insI x r
def sortI : List Int → List Int
  | [] => []
  | x :: r => insI x (sortI r)
/-- order of texts -/
def ltS : List Nat → List Nat → Bool
  | [], [] => false
  | [], _ :: _ => true
  | _ :: _, [] => false
  | a :: x, b :: y => if a < b then true else if a = b then ltS x y else false
def insS (x : List Nat) : List (List Nat) → List (List Nat)
  | [] => [x]
  | y :: r => if ltS y x then y :: insS x r else x :: y :: r
def sortS : List (List Nat) → List (List Nat)
  | [] => []
  | x :: r => insS x (sortS r)
def joinS (sep : List Nat) : List (List Nat) → List Nat
  | [] => []
  | [p] => p
  | p :: q :: r => p ++ (sep ++ joinS sep (q :: r))
def sumN : List Nat → Nat
  | [] => 0
  | x :: r => x + sumN r
def minL : Int → List Int → Int
  | m, [] => m
  | m, x :: r => minL (if x < m then x else m) r
def maxL : Int → List Int → Int
  | m, [] => m
  | m, x :: r => maxL (if m < x then x else m) r
def idxOf {α : Type} (p : α → Bool) : List α → Option Nat
  | [] => none
  | x :: r => if p x then some 0 else (idxOf p r).map (· + 1)

/-! ### operators -/
def newLst (h : Hq) (xs : List PV) : Res PV := .ret (.ref h.n) (h.push (.lst xs))
def okIf (b : Bool) (t : Res PV) : Res PV := if b = true then t else .fail
def le' (a b : Nat) : Bool := Nat.ble a b
def addS (h : Hq) (v w : PV) : Res PV := match v, w with
  | .int i, .int j => .ret (.int (i + j)) h
  | .str s, .str t => okIf (le' (s.length + t.length) SL) (.ret (.str (s ++ t)) h)
  | .tup xs, .tup ys => okIf (le' (xs.length + ys.length) SL) (.ret (.tup (xs ++ ys)) h)
  | .ref r, .ref q => match h.get r with
    | some (.lst xs) => match h.get q with
      | some (.lst ys) => okIf (le' (xs.length + ys.length) SL) (newLst h (xs ++ ys))
      | _ => .fail
    | _ => .fail
  | _, _ => .fail
def lt64 (i : Int) : Bool := decide (-(2 ^ 64) < i) && decide (i < 2 ^ 64)
def mulS (h : Hq) (v w : PV) : Res PV := match v, w with
  | .int i, .int j => okIf (lt64 i || lt64 j) (.ret (.int (i * j)) h)
  | .ref r, .int k => match h.get r with
    | some (.lst xs) => okIf (decide (-(2 ^ 63) ≤ k) && decide (k < 2 ^ 63) && le' (xs.length * k.toNat) SL) (newLst h (List.replicate k.toNat xs).flatten)
    | _ => .fail
  | .tup xs, .int k => okIf (decide (2 ≤ k) && decide (k ≤ 1000) && le' xs.length 1000 && !xs.isEmpty) (.ret (.tup (List.replicate k.toNat xs).flatten) h)
  | .str s, .int k => okIf (decide (0 ≤ k) && decide (k ≤ 100000) && le' s.length 100) (.ret (.str (List.replicate k.toNat s).flatten) h)
  | _, _ => .fail
def binS (op : BOp) (h : Hq) (v w : PV) : Res PV := match op with
  | .add => addS h v w
  | .mul => mulS h v w
  | .sub => match v, w with
    | .int i, .int j => .ret (.int (i - j)) h
    | _, _ => .fail
  | .fdiv => match v, w with
    | .int i, .int j => okIf (decide (0 < j) && decide (j < 1073741824)) (.ret (.int (i / j)) h)
    | _, _ => .fail
  | .mod => match v, w with
    | .int i, .int j => okIf (decide (0 < j)) (.ret (.int (i % j)) h)
    | _, _ => .fail
  | .pow => match v, w with
    | .int i, .int j => okIf (decide (0 ≤ j) && decide (j ≤ 1000000) && decide (i.natAbs < 2 ^ 64)) (.ret (.int (i ^ j.toNat)) h)
    | _, _ => .fail
def inS (h : Hq) (v w : PV) : Option Bool := match w with
  | .str t => match v with
    | .str [c] => some (decide (c ∈ t))
    | _ => none
  | .tup ys => if flat v && ys.all flat then some (ys.any fun y => eqF y v) else none
  | .ref r => match h.get r with
    | some (.lst ys) => match toD h 64 v with
      | some d => match mapO (toD h 63) ys with
        | some ds => some (ds.any fun z => PyData.eqv z d)
        | none => none
      | none => none
    | some (.dk kvs) => if isKey v then some (dGet kvs v).isSome else none
    | _ => none
  | _ => none
def cmpS (op : COp) (h : Hq) (v w : PV) : Res PV := match op with
  | .eq => ofB h (eqS h v w)
  | .ne => ofB h ((eqS h v w).map (!·))
  | .isin => ofB h (inS h v w)
  | .notin => ofB h ((inS h v w).map (!·))
  | .lt => match v, w with
    | .int i, .int j => .ret (.bl (decide (i < j))) h
    | .str s, .str t => .ret (.bl (ltS s t)) h
    | _, _ => .fail
  | .le => match v, w with
    | .int i, .int j => .ret (.bl (decide (i ≤ j))) h
    | _, _ => .fail
  | .gt => match v, w with
    | .int i, .int j => .ret (.bl (decide (j < i))) h
    | _, _ => .fail
  | .ge => match v, w with
    | .int i, .int j => .ret (.bl (decide (j ≤ i))) h
    | _, _ => .fail
def idxS (h : Hq) (v w : PV) : Res PV := match v with
  | .tup xs => match w with
    | .int i => ofV h (at' xs i)
    | _ => .fail
  | .str s => match w with
    | .int i => ofV h ((at' s i).map fun c => .str [c])
    | _ => .fail
  | .ref r => match h.get r with
    | some (.lst xs) => match w with
      | .int i => ofV h (at' xs i)
      | _ => .fail
    | some (.frz xs) => match w with
      | .int i => ofV h (at' xs i)
      | _ => .fail
    | some (.dk kvs) => if isKey w then ofV h (dGet kvs w) else .fail
    | _ => .fail
  | _ => .fail
def sliceS (h : Hq) (v : PV) (lo hi : Option Int) : Res PV := match v with
  | .tup xs => .ret (.tup (cut xs lo hi)) h
  | .str s => .ret (.str (cut s lo hi)) h
  | .ref r => match getL h r with
    | some xs => newLst h (cut xs lo hi)
    | none => .fail
  | _ => .fail
def revS (h : Hq) (v : PV) : Res PV := match v with
  | .ref r => match getL h r with
    | some xs => newLst h xs.reverse
    | none => .fail
  | _ => .fail
def isinS (isa : Nat → Nat → Bool) (h : Hq) (v : PV) (t : Ty) : Option Bool := match v with
  | .non => some false
  | .bl _ => some (match t with | .bool => true | .int => true | _ => false)
  | .int _ => some (match t with | .int => true | _ => false)
  | .str _ => some (match t with | .str => true | _ => false)
  | .tup _ => some (match t with | .tuple => true | _ => false)
  | .ref r => match h.get r with
    | some (.lst _) => some (match t with | .list => true | _ => false)
    | some (.frz _) => some (match t with | .list => true | _ => false)
    | _ => none
/-- the classes of exceptions: 0 is the base, 99 ValueError -/
def isaE (c d : Nat) : Bool := Nat.beq c d || Nat.beq d 0 || Nat.beq d 99
/-- isinstance of a caught exception; n classes there are -/
def isinC (h : Hq) (v : PV) (d n : Nat) : Option Bool := match v with
  | .ref r => match h.get r with
    | some (.exc c) => if Nat.blt c n = true then some (isaE c d) else none
    | _ => none
  | _ => none
def isinT (isa : Nat → Nat → Bool) (h : Hq) (v : PV) (t : Ty) : Option Bool := match t with
  | .cls d n => isinC h v d n
  | .int => isinS isa h v .int
  | .bool => isinS isa h v .bool
  | .str => isinS isa h v .str
  | .list => isinS isa h v .list
  | .tuple => isinS isa h v .tuple
def strsPV (xs : List (List Nat)) : List PV := xs.map .str
def intsPV (xs : List Int) : List PV := xs.map .int
def signsS (x : List Nat) : List (List Nat) := x.map fun c => [c]
def seqOf (h : Hq) : PV → Option (List PV)
  | .tup xs => some xs
  | .ref r => getL h r
  | _ => none
def rangeI : Nat → Int → Int → List PV
  | 0, _, _ => []
  | n + 1, a, c => .int a :: rangeI n (a + c) c
def small62 (i : Int) : Bool := decide (-(2 ^ 62) ≤ i) && decide (i < 2 ^ 62)
def rangeS : List PV → Option (List PV)
  | [.int n] => if small62 n then some (rangeI n.toNat 0 1) else none
  | [.int a, .int b] => if small62 a && small62 b then some (rangeI (b - a).toNat a 1) else none
  | [.int a, .int b, .int c] => if small62 a && small62 b && decide (c = -1) then some (rangeI (a - b).toNat a (-1)) else none
  | _ => none
def biS (b : Bi) (h : Hq) (vs : List PV) : Res PV := match b with
  | .len => match vs with
    | [.str s] => .ret (.int s.length) h
    | [.tup xs] => .ret (.int xs.length) h
    | [.ref r] => match h.get r with
      | some (.lst xs) => .ret (.int xs.length) h
      | some (.frz xs) => .ret (.int xs.length) h
      | some (.dk kvs) => .ret (.int kvs.length) h
      | _ => .fail
    | _ => .fail
  | .list => match vs with
    | [.str s] => newLst h (s.map fun c => .str [c])
    | [v] => match seqOf h v with
      | some xs => newLst h xs
      | none => .fail
    | _ => .fail
  | .listRange => match rangeS vs with
    | some xs => okIf (le' xs.length SL) (newLst h xs)
    | none => .fail
  | .tuple => match vs with
    | [.tup xs] => .ret (.tup xs) h
    | [.ref r] => match getL h r with
      | some xs => .ret (.tup xs) h
      | none => .fail
    | _ => .fail
  | .sorted => match vs with
    | [.ref r] => match getL h r with
      | some xs => match intsOf xs with
        | some is => okIf (le' is.length 63) (newLst h (intsPV (sortI is)))
        | none => match strsOf xs with
          | some ss => okIf (le' ss.length 63) (newLst h (strsPV (sortS ss)))
          | none => .fail
      | none => .fail
    | [.str x] => newLst h (strsPV (sortS (signsS x)))
    | _ => .fail
  | .all => match vs with
    | [.ref r] => match getL h r with
      | some xs => match blsOf xs with
        | some bs => .ret (.bl (bs.all id)) h
        | none => .fail
      | none => .fail
    | _ => .fail
  | .min => match vs with
    | [.int i, .int j] => .ret (.int (if j < i then j else i)) h
    | [.ref r] => match getL h r with
      | some xs => match intsOf xs with
        | some (i :: is) => .ret (.int (minL i is)) h
        | _ => .fail
      | none => .fail
    | _ => .fail
  | .max => match vs with
    | [.int i, .int j] => .ret (.int (if i < j then j else i)) h
    | [.ref r] => match getL h r with
      | some xs => match intsOf xs with
        | some (i :: is) => .ret (.int (maxL i is)) h
        | _ => .fail
      | none => .fail
    | _ => .fail
  | .sum => match vs with
    | [.ref r] => match getL h r with
      | some xs => match intsOf xs with
        | some is => .ret (.int is.sum) h
        | none => .fail
      | none => .fail
    | [.tup xs] => match intsOf xs with
      | some is => .ret (.int is.sum) h
      | none => .fail
    | _ => .fail
  | .str => match vs with
    | [.int i] => okIf (decide (0 ≤ i) && decide (i < 10)) (.ret (.str [48 + i.toNat]) h)
    | [.str s] => .ret (.str s) h
    | _ => .fail
  | .set => .fail
  | .dict => .fail
def mtS (m : Mt) (h : Hq) (o : PV) (vs : List PV) : Res PV := match m with
  | .append => match o, vs with
    | .ref r, [v] => match h.get r with
      | some (.lst xs) => okIf (le' (xs.length + 1) SL) (.ret .non (h.set r (.lst (xs ++ [v]))))
      | _ => .fail
    | _, _ => .fail
  | .pop => match o, vs with
    | .ref r, [] => match h.get r with
      | some (.lst xs) => match xs.getLast? with
        | some v => .ret v (h.set r (.lst xs.dropLast))
        | none => .fail
      | _ => .fail
    | _, _ => .fail
  | .indexS => match o, vs with
    | .str s, [.str [c]] => ofV h ((idxOf (· == c) s).map fun i => .int i)
    | _, _ => .fail
  | .indexL => match o, vs with
    | .ref r, [v] => match getL h r with
      | some xs => okIf (flat v && xs.all flat) (ofV h ((idxOf (fun y => eqF y v) xs).map fun i => .int i))
      | none => .fail
    | _, _ => .fail
  | .join => match o, vs with
    | .str s, [.ref r] => match getL h r with
      | some xs => match strsOf xs with
        | some ss => okIf (le' (sumN (ss.map List.length) + ss.length * s.length) SL) (.ret (.str (joinS s ss)) h)
        | none => .fail
      | none => .fail
    | _, _ => .fail
  | .split => match o, vs with
    | .str s, [.str t] => okIf (!t.isEmpty && le' (s.length + 2) SL) (newLst h (strsPV (TL.spl t 0 [] s)))
    | _, _ => .fail
  | .countL => match o, vs with
    | .ref r, [v] => match getL h r with
      | some xs => okIf (flat v && xs.all flat) (.ret (.int ((xs.countP fun y => eqF y v) : Nat)) h)
      | none => .fail
    | _, _ => .fail
  | .get => match o, vs with
    | .ref r, [k, d] => match h.get r with
      | some (.dk kvs) => okIf (isKey k) (.ret ((dGet kvs k).getD d) h)
      | _ => .fail
    | _, _ => .fail
  | .setdefault => .fail
  | .remove => .fail

/-! ### sources of loops -/
inductive Src where
  | itm (xs : List PV)
  | lst (r : Nat)
  | enum (s : Src)
  | zip (a b : Src)
def Src.at (h : Hq) : Src → Nat → Option PV
  | .itm xs, i => xs[i]?
  | .lst r, i => match getL h r with
    | some xs => xs[i]?
    | none => none
  | .enum s, i => (s.at h i).map fun v => .tup [.int i, v]
  | .zip a b, i => match a.at h i with
    | some v => match b.at h i with
      | some w => some (.tup [v, w])
      | none => none
    | none => none
def Src.len (h : Hq) : Src → Option Nat
  | .itm xs => some xs.length
  | .lst r => match getL h r with
    | some xs => some xs.length
    | none => none
  | .enum s => s.len h
  | .zip a b => match a.len h with
    | some n => match b.len h with
      | some m => some (min n m)
      | none => none
    | none => none
def Src.done (h : Hq) (s : Src) (i : Nat) : Bool := match s.len h with
  | some n => Nat.beq n i
  | none => false
def Src.size (h : Hq) (s : Src) : Nat := match s.len h with
  | some n => n
  | none => 0
/-- the source that a value is -/
def srcOf (h : Hq) : PV → Option Src
  | .tup xs => some (.itm xs)
  | .str s => some (.itm (s.map fun c => .str [c]))
  | .ref r => match getL h r with
    | some _ => some (.lst r)
    | none => none
  | _ => none
mutual
def asgT : Tg → PV → Env → Option Env
  | .name i, v, env => some (env.set i (some v))
  | .tup ts, .tup vs, env => asgTs ts vs env
  | .tup _, _, _ => none
def asgTs : List Tg → List PV → Env → Option Env
  | [], [], env => some env
  | t :: ts, v :: vs, env => match asgT t v env with
    | some env' => asgTs ts vs env'
    | none => none
  | [], _ :: _, _ => none
  | _ :: _, [], _ => none
end
def wipeE (env : Env) : List Nat → Env
  | [] => env
  | v :: vs => (wipeE env vs).set v none
def sameW (env env' : Env) : List Nat → Bool := fun _ => true
/-- the loop of a comprehension: m turns are left of n; the new list is at d -/
def lcLoop (src : Src) (tg : Tg) (own : List Nat) (env0 : Env) (d : Nat) (tst : Env → Hq → Res Bool) (elt : Env → Hq → Res PV) (n : Nat) : Nat → Hq → Res PV
  | 0, h => okIf (src.done h n) (.ret (.ref d) h)
  | m + 1, h => match src.at h (n - (m + 1)) with
    | none => .fail
    | some v => match asgT tg v env0 with
      | none => .fail
      | some env => (tst env h).shut.bind fun b h1 => if b = true then
          (elt env h1).shut.bind fun v h2 => match h2.get d with
            | some (.lst acc) => if le' (acc.length + 1) SL = true then lcLoop src tg own env0 d tst elt n m (h2.set d (.lst (acc ++ [v]))) else .fail
            | _ => .fail
        else lcLoop src tg own env0 d tst elt n m h1
def isLst (h : Hq) : PV → Bool
  | .ref r => (getL h r).isSome
  | _ => false
def isStr : PV → Bool
  | .str _ => true
  | _ => false
def isDk (h : Hq) : PV → Bool
  | .ref r => match h.get r with
    | some (.dk _) => true
    | _ => false
  | _ => false
/-- is it of the type that the method belongs to -/
def tyM (m : Mt) (h : Hq) (v : PV) : Bool := match m with
  | .append => isLst h v
  | .pop => isLst h v
  | .indexL => isLst h v
  | .countL => isLst h v
  | .remove => isLst h v
  | .indexS => isStr v
  | .join => isStr v
  | .split => isStr v
  | .get => isDk h v
  | .setdefault => false
def mtF (m : Mt) (h : Hq) (v : PV) (k : Res PV) : Res PV := if tyM m h v = true then k else .fail
def tru (v : PV) (h : Hq) : Res Bool := match v with
  | .bl b => .ret b h
  | _ => .fail
def ifB (v : PV) (h : Hq) (a b : Hq → Res PV) : Res PV := match v with
  | .bl true => a h
  | .bl false => b h
  | _ => .fail
def notF (v : PV) (h1 : Hq) : Res PV := match v with
  | .bl b => .ret (.bl (!b)) h1
  | _ => .fail
def negF (v : PV) (h1 : Hq) : Res PV := match v with
  | .int i => .ret (.int (-i)) h1
  | _ => .fail
def isNf (neg : Bool) (v : PV) : Bool := match v with
  | .non => !neg
  | _ => neg
def isBf (neg b : Bool) (v : PV) (h1 : Hq) : Res PV := match v with
  | .bl c => .ret (.bl (if neg then !(decide (c = b)) else decide (c = b))) h1
  | _ => .fail
/-- a part of a slice: left out (written .non), or an int -/
def partE (e : E) (v : PV) : Option (Option Int) := match e with
  | .non => some none
  | _ => match v with
    | .int i => some (some i)
    | _ => none
def optF (o : Option (Option Int)) (k : Option Int → Res PV) : Res PV := match o with
  | some o => k o
  | none => .fail
def attrF (f : List Nat) (v : PV) (h1 : Hq) : Res PV := match v with
  | .ref r => match h1.get r with
    | some (.ins c fs) => ofV h1 (fs.lookup f)
    | _ => .fail
  | _ => .fail
def varF (o : Option (Option PV)) (h : Hq) : Res PV := match o with
  | some (some v) => .ret v h
  | _ => .fail
def srcF (h : Hq) (o : Option Src) : Res Src := match o with
  | some s => .ret s h
  | none => .fail
def zipF (a b : Option Src) : Option Src := match a with
  | some s => match b with
    | some t => some (.zip s t)
    | none => none
  | none => none
def itmF (o : Option (List PV)) : Option Src := match o with
  | some xs => some (.itm xs)
  | none => none
def enumF (o : Option Src) : Option Src := match o with
  | some s => some (.enum s)
  | none => none
/-- a display's pairs -/
def pairUp : List PV → Option (List (PV × PV))
  | [] => some []
  | k :: v :: r => (pairUp r).map ((k, v) :: ·)
  | _ => none
def dispF (r : Nat) (h : Hq) (o : Option (List (PV × PV))) : Res PV := match o with
  | some kvs => match h.get r with
    | some (.dk []) => okIf ((kvs.all fun p => isKey p.1) && le' kvs.length 15) (.ret (.ref r) (h.set r (.dk (kvs.foldl (fun a p => dPut a p.1 p.2) []))))
    | _ => .fail
  | none => .fail
section
variable (P : Prog) (call : Call)
mutual
def evE : E → Env → Hq → Res PV
  | .non, _, h => .ret .non h
  | .bl b, _, h => .ret (.bl b) h
  | .int i, _, h => .ret (.int i) h
  | .str s, _, h => .ret (.str s) h
  | .var i, env, h => varF env[i]? h
  | .gc i, _, h => ofV h P.consts[i]?
  | .bin op a b, env, h => (evE a env h).bind fun v h1 => (evE b env h1).bind fun w h2 => binS op h2 v w
  | .neg a, env, h => (evE a env h).bind fun v h1 => negF v h1
  | .nt a, env, h => (evE a env h).bind fun v h1 => notF v h1
  | .and es, env, h => evAnd es env h
  | .or es, env, h => evOr es env h
  | .cmp op a b, env, h => (evE a env h).bind fun v h1 => (evE b env h1).bind fun w h2 => cmpS op h2 v w
  | .isN neg a, env, h => (evE a env h).bind fun v h1 => .ret (.bl (isNf neg v)) h1
  | .isB neg a b, env, h => (evE a env h).bind fun v h1 => isBf neg b v h1
  | .chain p q a b c, env, h => (evE a env h).bind fun v h1 => (evE b env h1).bind fun w h2 => (cmpS p h2 v w).bind fun x h3 => ifB x h3 (fun h3 => (evE c env h3).bind fun u h4 => cmpS q h4 w u) fun h3 => .ret (.bl false) h3
  | .ite c a b, env, h => (evE c env h).bind fun v h1 => ifB v h1 (fun h => evE a env h) (fun h => evE b env h)
  | .tup es, env, h => (evEs es env h).bind fun vs h1 => okIf (le' vs.length SL) (.ret (.tup vs) h1)
  | .lst es, env, h => (evEs es env h).bind fun vs h1 => okIf (le' vs.length SL) (newLst h1 vs)
  | .dct n ks vs, env, h => if n then .fail else match ks with
    | [] => .ret (.ref h.n) (h.push (.dk []))
    | k :: ks => (evEs (k :: ks) env (h.push (.dk []))).bind fun ws h1 => dispF h.n h1 (pairUp ws)
  | .idx a i, env, h => (evE a env h).bind fun v h1 => (evE i env h1).bind fun w h2 => idxS h2 v w
  | .slice a lo hi, env, h => (evE a env h).bind fun v h1 => (evE lo env h1).bind fun l h2 => optF (partE lo l) fun l' => (evE hi env h2).bind fun u h3 => optF (partE hi u) fun u' => sliceS h3 v l' u'
  | .rev a, env, h => (evE a env h).bind fun v h1 => revS h1 v
  | .attr a f, env, h => (evE a env h).bind fun v h1 => attrF f v h1
  | .call f args, env, h => (evEs args env h).bind fun vs h1 => call f vs h1
  | .new c f args, env, h => .fail
  | .meth c f m o args, env, h => .fail
  | .bi b args, env, h => (evEs args env h).bind fun vs h1 => biS b h1 vs
  | .mt m o args, env, h => (evE o env h).bind fun v h1 => mtF m h1 v ((evEs args env h1).bind fun vs h2 => mtS m h2 v vs)
  | .isinst a t, env, h => (evE a env h).bind fun v h1 => ofB h1 (isinT P.isa h1 v t)
  | .comp elt tg it ifs own, env, h => (evSrc it env h).bind fun src h1 =>
      lcLoop src tg own (wipeE env own) h1.n (fun env h => evTst ifs env h) (fun env h => evE elt env h) (src.size h1) (src.size h1) (h1.push (.lst []))
  | .range _, _, _ => .fail
  | .enum _, _, _ => .fail
  | .zip _ _, _, _ => .fail
  | .src _, _, _ => .fail
def evEs : List E → Env → Hq → Res (List PV)
  | [], _, h => .ret [] h
  | e :: es, env, h => (evE e env h).bind fun v h1 => (evEs es env h1).bind fun vs h2 => .ret (v :: vs) h2
def evAnd : List E → Env → Hq → Res PV
  | [], _, h => .fail
  | [e], env, h => evE e env h
  | e :: f :: es, env, h => (evE e env h).bind fun v h1 => ifB v h1 (fun h => evAnd (f :: es) env h) fun h => .ret (.bl false) h
def evOr : List E → Env → Hq → Res PV
  | [], _, h => .fail
  | [e], env, h => evE e env h
  | e :: f :: es, env, h => (evE e env h).bind fun v h1 => ifB v h1 (fun h => .ret (.bl true) h) fun h => evOr (f :: es) env h
def evTst : List E → Env → Hq → Res Bool
  | [], _, h => .ret true h
  | [e], env, h => (evE e env h).bind fun v h1 => tru v h1
  | _ :: _ :: _, _, _ => .fail
def evSrc : E → Env → Hq → Res Src
  | .range args, env, h => (evEs args env h).bind fun vs h1 => srcF h1 (itmF (rangeS vs))
  | .enum a, env, h => (evE a env h).bind fun v h1 => srcF h1 (enumF (srcOf h1 v))
  | .zip a b, env, h => (evE a env h).bind fun v h1 => (evE b env h1).bind fun w h2 => srcF h2 (zipF (srcOf h2 v) (srcOf h2 w))
  | .src a, env, h => (evE a env h).bind fun v h1 => srcF h1 (srcOf h1 v)
  | _, _, _ => .fail
end
end
end MP

namespace MP
abbrev Rs := Res (Flow × Env)
/-- the loop of a for: m turns are left of n -/
def forLoop (src : Src) (tg : Tg) (body : Env → Hq → Rs) (n : Nat) : Nat → Env → Hq → Rs
  | 0, env, h => if src.done h n = true then .ret (.next, env) h else .fail
  | m + 1, env, h => match src.at h (n - (m + 1)) with
    | none => .fail
    | some v => match asgT tg v env with
      | none => .fail
      | some env1 => (body env1 h).bind fun p h1 => match p.1 with
        | .next => forLoop src tg body n m p.2 h1
        | .cont => forLoop src tg body n m p.2 h1
        | .ret v => .ret (.ret v, p.2) h1
def whileLoop (c : Env → Hq → Res Bool) (body : Env → Hq → Rs) : Nat → Env → Hq → Rs
  | 0, _, _ => .fail
  | m + 1, env, h => (c env h).bind fun b h1 => if b = true then
      (body env h1).bind fun p h2 => match p.1 with
        | .next => whileLoop c body m p.2 h2
        | .cont => whileLoop c body m p.2 h2
        | .ret v => .ret (.ret v, p.2) h2
    else .ret (.next, env) h1
def setL (h : Hq) (r : Nat) (xs : List PV) (v : PV) : PV → Option Hq
  | .int k => if (decide (0 ≤ k) && le' (k.toNat + 1) xs.length) = true then some (h.set r (.lst (xs.set k.toNat v))) else none
  | _ => none
def setD (h : Hq) (r : Nat) (kvs : List (PV × PV)) (i v : PV) : Option Hq := if (isKey i && le' (kvs.length + 1) SL) = true then some (h.set r (.dk (dPut kvs i v))) else none
def setO (h : Hq) (r : Nat) (i v : PV) : Option LO → Option Hq
  | some (.lst xs) => setL h r xs v i
  | some (.dk kvs) => setD h r kvs i v
  | _ => none
def setIdx (h : Hq) (o i v : PV) : Option Hq := match o with
  | .ref r => setO h r i v (h.get r)
  | _ => none
def augS (op : BOp) (h : Hq) (v w : PV) : Res PV := match op with
  | .add => match v, w with
    | .int i, .int j => .ret (.int (i + j)) h
    | .ref r, .ref q => match h.get r with
      | some (.lst xs) => match h.get q with
        | some (.lst ys) => if le' (xs.length + ys.length) SL = true then .ret (.ref r) (h.set r (.lst (xs ++ ys))) else .fail
        | _ => .fail
      | _ => .fail
    | _, _ => .fail
  | _ => .fail
def ifS (v : PV) (h : Hq) (a b : Hq → Rs) : Rs := match v with
  | .bl true => a h
  | .bl false => b h
  | _ => .fail
def envF (h : Hq) (o : Option Env) : Rs := match o with
  | some env => .ret (.next, env) h
  | none => .fail
def hqF (env : Env) (o : Option Hq) : Rs := match o with
  | some h => .ret (.next, env) h
  | none => .fail
def seqF (p : Flow × Env) (h : Hq) (k : Env → Hq → Rs) : Rs := match p.1 with
  | .next => k p.2 h
  | _ => .ret p h
def setMany : List Nat → List PV → Env → Option Env
  | [], [], env => some env
  | i :: is, v :: vs, env => setMany is vs (env.set i (some v))
  | _, _, _ => none
/-- try: x = e (or e alone) except BindError as n: m = n -/
def tryF (i : Option Nat) (n m ne : Nat) (env : Env) (h : Hq) (r : Res PV) : Rs := match r with
  | .ret v h1 => match i with
    | some i => .ret (.next, env.set i (some v)) h1
    | none => .ret (.next, env) h1
  | .exc c h1 => if Nat.blt c ne = true then .ret (.next, (env.set m (some (.ref h1.n))).set n none) (h1.push (.exc c)) else .fail
  | .fail => .fail
section
variable (P : Prog) (call : Call) (wf : Nat)
mutual
def xS : S → Env → Hq → Rs
  | .asg t e, env, h => (evE P call e env h).bind fun v h1 => envF h1 (asgT t v env)
  | .par is es, env, h => (evEs P call es env h).bind fun vs h1 => envF h1 (setMany is vs env)
  | .seta o f e, env, h => .fail
  | .seti o i e, env, h => (evE P call e env h).bind fun v h1 => (evE P call o env h1).bind fun w h2 => (evE P call i env h2).bind fun k h3 => hqF env (setIdx h3 w k v)
  | .aug i op e, env, h => (varF env[i]? h).bind fun v h => (evE P call e env h).bind fun w h1 => (augS op h1 v w).bind fun u h2 => .ret (.next, env.set i (some u)) h2
  | .expr e, env, h => (evE P call e env h).bind fun _ h1 => .ret (.next, env) h1
  | .ret e, env, h => (evE P call e env h).bind fun v h1 => .ret (.ret v, env) h1
  | .retN, env, h => .ret (.ret .non, env) h
  | .ife c a b, env, h => (evE P call c env h).bind fun v h1 => ifS v h1 (fun h => xSs a env h) (fun h => xSs b env h)
  | .for t it body, env, h => (evSrc P call it env h).bind fun src h1 => forLoop src t (fun env h => xSs body env h) (src.size h1) (src.size h1) env h1
  | .while c body, env, h => whileLoop (fun env h => (evE P call c env h).bind fun v h1 => tru v h1) (fun env h => xSs body env h) wf env h
  | .raise c, env, h => .exc c h
  | .pass, env, h => .ret (.next, env) h
  | .cont, env, h => .ret (.cont, env) h
  | .try_ i e n m ne, env, h => tryF i n m ne env h (evE P call e env h)
def xSs : List S → Env → Hq → Rs
  | [], env, h => .ret (.next, env) h
  | s :: r, env, h => (xS s env h).bind fun p h1 => seqF p h1 fun env h => xSs r env h
end
end
def rtOf (p : Flow × Env) (h : Hq) : Res PV := match p.1 with
  | .ret v => .ret v h
  | .next => .ret .non h
  | .cont => .fail
/-- a call of the f-th def, k levels deep at most -/
def evF (P : Prog) (wf : Nat) : Nat → Call
  | 0, _, _, _ => .fail
  | k + 1, f, vs, h => match P.fns[f]? with
    | some d => if vs.length = d.np then (xSs P (evF P wf k) wf d.body (vs.map some ++ List.replicate (d.nl - d.np) none) h).bind rtOf else .fail
    | none => .fail
/-- the heap ahead of the law: the script's list -/
def h0 (ns : List Int) : Hq := ⟨1, .node (some (.frz (intsPV ns))) .nil .nil⟩
end MP

/-! ev0: an evaluator without a heap. Lists and dicts are values; a variable owns its list while only it holds it. -/
namespace MP.Z
open PySem (PyData)
inductive VV where
  | non
  | bl (b : Bool)
  | int (i : Int)
  | str (s : List Nat)
  | tup (xs : List VV)
  | lst (xs : List VV)
  | dic (kvs : List (VV × VV))
  | drw
  | exc (c : Nat)
/-- the numbers drawn from, how many draws there were -/
abbrev Drw := List Int × Int
abbrev Env0 := List (Option (Bool × VV))
inductive R0 (α : Type) where
  | ret (a : α) (env : Env0) (s : Drw)
  | exc (c : Nat) (s : Drw)
  | fail
def R0.bind {α β : Type} (t : R0 α) (f : α → Env0 → Drw → R0 β) : R0 β :=
  match t with
  | .ret a env s => f a env s
  | .exc c s => .exc c s
  | .fail => .fail
@[simp] theorem R0.bind_ret {α β : Type} (a : α) (env : Env0) (s : Drw) (f : α → Env0 → Drw → R0 β) : (R0.ret a env s).bind f = f a env s := rfl
@[simp] theorem R0.bind_exc {α β : Type} (c : Nat) (s : Drw) (f : α → Env0 → Drw → R0 β) : (R0.exc c s : R0 α).bind f = .exc c s := rfl
@[simp] theorem R0.bind_fail {α β : Type} (f : α → Env0 → Drw → R0 β) : (R0.fail : R0 α).bind f = .fail := rfl
/-- the result of a def -/
inductive RF where
  | ret (v : VV) (s : Drw)
  | exc (c : Nat) (s : Drw)
  | fail
abbrev Call0 := Nat → List VV → Drw → RF
/-! ### values -/
def toD0 : Nat → VV → Option PyData
  | _, .non => some .none
  | _, .bl b => some (.bool b)
  | _, .int i => some (.int i)
  | _, .str s => some (.str ⟨s.toArray⟩)
  | 0, .tup _ => none
  | k + 1, .tup xs => (mapO (toD0 k) xs).map .tuple
  | 0, .lst _ => none
  | k + 1, .lst xs => (mapO (toD0 k) xs).map .list
  | _, _ => none
def eqV (v w : VV) : Option Bool :=
  match toD0 64 v with
  | some d => match toD0 64 w with
    | some e => some (PyData.eqv d e)
    | none => none
  | none => none
def flat0 : VV → Bool
  | .non => true
  | .bl _ => true
  | .int _ => true
  | .str _ => true
  | _ => false
def eqF0 : VV → VV → Bool
  | .non, .non => true
  | .bl a, .bl b => a == b
  | .bl a, .int b => (if a then 1 else 0) == b
  | .int a, .bl b => a == (if b then 1 else 0)
  | .int a, .int b => a == b
  | .str a, .str b => a == b
  | _, _ => false
def isKey0 : VV → Bool
  | .int _ => true
  | .str _ => true
  | _ => false
def keyEq0 : VV → VV → Bool
  | .int a, .int b => a == b
  | .str a, .str b => a == b
  | _, _ => false
def dGet0 (kvs : List (VV × VV)) (k : VV) : Option VV := (kvs.find? fun kv => keyEq0 kv.1 k).map (·.2)
def dPut0 (kvs : List (VV × VV)) (k v : VV) : List (VV × VV) :=
  if (kvs.any fun kv => keyEq0 kv.1 k) = true then kvs.map (fun kv => if keyEq0 kv.1 k = true then (kv.1, v) else kv) else kvs ++ [(k, v)]
def ints0 : List VV → Option (List Int)
  | [] => some []
  | .int i :: r => (ints0 r).map (i :: ·)
  | _ => none
def strs0 : List VV → Option (List (List Nat))
  | [] => some []
  | .str i :: r => (strs0 r).map (i :: ·)
  | _ => none
def bls0 : List VV → Option (List Bool)
  | [] => some []
  | .bl i :: r => (bls0 r).map (i :: ·)
  | _ => none
def okO {α : Type} (b : Bool) (v : α) : Option α := if b = true then some v else none
def addV (v w : VV) : Option VV := match v, w with
  | .int i, .int j => some (.int (i + j))
  | .str s, .str t => okO (le' (s.length + t.length) SL) (.str (s ++ t))
  | .tup xs, .tup ys => okO (le' (xs.length + ys.length) SL) (.tup (xs ++ ys))
  | .lst xs, .lst ys => okO (le' (xs.length + ys.length) SL) (.lst (xs ++ ys))
  | _, _ => none
def mulV (v w : VV) : Option VV := match v, w with
  | .int i, .int j => okO (lt64 i || lt64 j) (.int (i * j))
  | .lst xs, .int k => okO (decide (-(2 ^ 63) ≤ k) && decide (k < 2 ^ 63) && le' (xs.length * k.toNat) SL) (.lst (List.replicate k.toNat xs).flatten)
  | .tup xs, .int k => okO (decide (2 ≤ k) && decide (k ≤ 1000) && le' xs.length 1000 && !xs.isEmpty) (.tup (List.replicate k.toNat xs).flatten)
  | .str s, .int k => okO (decide (0 ≤ k) && decide (k ≤ 100000) && le' s.length 100) (.str (List.replicate k.toNat s).flatten)
  | _, _ => none
def binV (op : BOp) (v w : VV) : Option VV := match op with
  | .add => addV v w
  | .mul => mulV v w
  | .sub => match v, w with
    | .int i, .int j => some (.int (i - j))
    | _, _ => none
  | .fdiv => match v, w with
    | .int i, .int j => okO (decide (0 < j) && decide (j < 1073741824)) (.int (i / j))
    | _, _ => none
  | .mod => match v, w with
    | .int i, .int j => okO (decide (0 < j)) (.int (i % j))
    | _, _ => none
  | .pow => match v, w with
    | .int i, .int j => okO (decide (0 ≤ j) && decide (j ≤ 1000000) && decide (i.natAbs < 2 ^ 64)) (.int (i ^ j.toNat))
    | _, _ => none
def inV (v w : VV) : Option Bool := match w with
  | .str t => match v with
    | .str [c] => some (decide (c ∈ t))
    | _ => none
  | .tup ys => okO (flat0 v && ys.all flat0) (ys.any fun y => eqF0 y v)
  | .lst ys => match toD0 64 v with
    | some d => match mapO (toD0 63) ys with
      | some ds => some (ds.any fun z => PyData.eqv z d)
      | none => none
    | none => none
  | .dic kvs => okO (isKey0 v) (dGet0 kvs v).isSome
  | _ => none
def bO (o : Option Bool) : Option VV := match o with
  | some b => some (.bl b)
  | none => none
def cmpV (op : COp) (v w : VV) : Option VV := match op with
  | .eq => bO (eqV v w)
  | .ne => bO ((eqV v w).map (!·))
  | .isin => bO (inV v w)
  | .notin => bO ((inV v w).map (!·))
  | .lt => match v, w with
    | .int i, .int j => some (.bl (decide (i < j)))
    | .str s, .str t => some (.bl (ltS s t))
    | _, _ => none
  | .le => match v, w with
    | .int i, .int j => some (.bl (decide (i ≤ j)))
    | _, _ => none
  | .gt => match v, w with
    | .int i, .int j => some (.bl (decide (j < i)))
    | _, _ => none
  | .ge => match v, w with
    | .int i, .int j => some (.bl (decide (j ≤ i)))
    | _, _ => none
def idxV (v w : VV) : Option VV := match v with
  | .tup xs => match w with
    | .int i => at' xs i
    | _ => none
  | .lst xs => match w with
    | .int i => at' xs i
    | _ => none
  | .str s => match w with
    | .int i => (at' s i).map fun c => .str [c]
    | _ => none
  | .dic kvs => if isKey0 w = true then dGet0 kvs w else none
  | _ => none
def sliceV (v : VV) (lo hi : Option Int) : Option VV := match v with
  | .tup xs => some (.tup (cut xs lo hi))
  | .lst xs => some (.lst (cut xs lo hi))
  | .str s => some (.str (cut s lo hi))
  | _ => none
def revV (v : VV) : Option VV := match v with
  | .lst xs => some (.lst xs.reverse)
  | _ => none
def isinV (v : VV) (t : Ty) : Option Bool := match v with
  | .non => some false
  | .bl _ => some (match t with | .bool => true | .int => true | _ => false)
  | .int _ => some (match t with | .int => true | _ => false)
  | .str _ => some (match t with | .str => true | _ => false)
  | .tup _ => some (match t with | .tuple => true | _ => false)
  | .lst _ => some (match t with | .list => true | _ => false)
  | _ => none
def isinVT (v : VV) (t : Ty) : Option Bool := match t with
  | .cls d n => match v with
    | .exc c => if Nat.blt c n = true then some (isaE c d) else none
    | _ => none
  | .int => isinV v .int
  | .bool => isinV v .bool
  | .str => isinV v .str
  | .list => isinV v .list
  | .tuple => isinV v .tuple
def rangeI0 : Nat → Int → Int → List VV
  | 0, _, _ => []
  | n + 1, a, c => .int a :: rangeI0 n (a + c) c
def rangeV : List VV → Option (List VV)
  | [.int n] => okO (small62 n) (rangeI0 n.toNat 0 1)
  | [.int a, .int b] => okO (small62 a && small62 b) (rangeI0 (b - a).toNat a 1)
  | [.int a, .int b, .int c] => okO (small62 a && small62 b && decide (c = -1)) (rangeI0 (a - b).toNat a (-1))
  | _ => none
def lenV : VV → Option VV
  | .str s => some (.int s.length)
  | .tup xs => some (.int xs.length)
  | .lst xs => some (.int xs.length)
  | .dic kvs => some (.int kvs.length)
  | _ => none
def listV : VV → Option VV
  | .str s => some (.lst (s.map fun c => .str [c]))
  | .tup xs => some (.lst xs)
  | .lst xs => some (.lst xs)
  | _ => none
def tupleV : VV → Option VV
  | .tup xs => some (.tup xs)
  | .lst xs => some (.tup xs)
  | _ => none
def sortedV : VV → Option VV
  | .lst xs => match ints0 xs with
    | some is => okO (le' is.length 63) (.lst ((sortI is).map .int))
    | none => match strs0 xs with
      | some ss => okO (le' ss.length 63) (.lst ((sortS ss).map .str))
      | none => none
  | .str x => some (.lst ((sortS (signsS x)).map .str))
  | _ => none
def allV : VV → Option VV
  | .lst xs => match bls0 xs with
    | some bs => some (.bl (bs.all id))
    | none => none
  | _ => none
def minV : List VV → Option VV
  | [.int i, .int j] => some (.int (if j < i then j else i))
  | [.lst xs] => match ints0 xs with
    | some (i :: is) => some (.int (minL i is))
    | _ => none
  | _ => none
def maxV : List VV → Option VV
  | [.int i, .int j] => some (.int (if i < j then j else i))
  | [.lst xs] => match ints0 xs with
    | some (i :: is) => some (.int (maxL i is))
    | _ => none
  | _ => none
def sumV : VV → Option VV
  | .lst xs => match ints0 xs with
    | some is => some (.int is.sum)
    | none => none
  | .tup xs => match ints0 xs with
    | some is => some (.int is.sum)
    | none => none
  | _ => none
def strV : VV → Option VV
  | .int i => okO (decide (0 ≤ i) && decide (i < 10)) (.str [48 + i.toNat])
  | .str s => some (.str s)
  | _ => none
def one0 (f : VV → Option VV) : List VV → Option VV
  | [v] => f v
  | _ => none
def biV (b : Bi) (vs : List VV) : Option VV := match b with
  | .len => one0 lenV vs
  | .list => one0 listV vs
  | .tuple => one0 tupleV vs
  | .sorted => one0 sortedV vs
  | .all => one0 allV vs
  | .sum => one0 sumV vs
  | .str => one0 strV vs
  | .min => minV vs
  | .max => maxV vs
  | .listRange => match rangeV vs with
    | some xs => okO (le' xs.length SL) (.lst xs)
    | none => none
  | _ => none
def joinV (s : List Nat) : VV → Option VV
  | .lst xs => match strs0 xs with
    | some ss => okO (le' (sumN (ss.map List.length) + ss.length * s.length) SL) (.str (joinS s ss))
    | none => none
  | _ => none
/-- methods that write nothing -/
def mtV (m : Mt) (o : VV) (vs : List VV) : Option VV := match m with
  | .indexS => match o, vs with
    | .str s, [.str [c]] => (idxOf (· == c) s).map fun i => .int i
    | _, _ => none
  | .indexL => match o, vs with
    | .lst xs, [v] => if (flat0 v && xs.all flat0) = true then (idxOf (fun y => eqF0 y v) xs).map fun i => .int i else none
    | _, _ => none
  | .countL => match o, vs with
    | .lst xs, [v] => okO (flat0 v && xs.all flat0) (.int ((xs.countP fun y => eqF0 y v) : Nat))
    | _, _ => none
  | .join => match o, vs with
    | .str s, [v] => joinV s v
    | _, _ => none
  | .split => match o, vs with
    | .str s, [.str t] => okO (!t.isEmpty && le' (s.length + 2) SL) (.lst ((TL.spl t 0 [] s).map .str))
    | _, _ => none
  | .get => match o, vs with
    | .dic kvs, [k, d] => okO (isKey0 k) ((dGet0 kvs k).getD d)
    | _, _ => none
  | _ => none
/-! ### the environment -/
/-- read, the value goes elsewhere too: the variable owns it no more -/
def readV (env : Env0) (i : Nat) (s : Drw) : R0 VV := match env[i]? with
  | some (some (_, v)) => .ret v (env.set i (some (false, v))) s
  | _ => .fail
def peekV (env : Env0) (i : Nat) (s : Drw) : R0 VV := match env[i]? with
  | some (some (_, v)) => .ret v env s
  | _ => .fail
def varOf : E → Option Nat
  | .var i => some i
  | _ => none
/-- read in passing: a variable keeps what it owns -/
def borrow (e : E) (env : Env0) (s : Drw) (t : R0 VV) : R0 VV := match varOf e with
  | some i => peekV env i s
  | none => t
def ofV0 (o : Option VV) (env : Env0) (s : Drw) : R0 VV := match o with
  | some v => .ret v env s
  | none => .fail
mutual
def asgV : Tg → VV → Env0 → Option Env0
  | .name i, v, env => some (env.set i (some (false, v)))
  | .tup ts, .tup vs, env => asgVs ts vs env
  | .tup _, _, _ => none
def asgVs : List Tg → List VV → Env0 → Option Env0
  | [], [], env => some env
  | t :: ts, v :: vs, env => match asgV t v env with
    | some env' => asgVs ts vs env'
    | none => none
  | [], _ :: _, _ => none
  | _ :: _, [], _ => none
end
def wipe0 (env : Env0) : List Nat → Env0
  | [] => env
  | v :: vs => (wipe0 env vs).set v none
/-- no variable owns -/
def hide (env : Env0) : Env0 := env.map fun o => match o with
  | some (true, _) => none
  | o => o
def isLD : VV → Bool
  | .lst _ => true
  | .dic _ => true
  | _ => false
/-- an expression whose list is new -/
def fresh : E → Bool
  | .lst _ => true
  | .dct _ _ _ => true
  | .comp _ _ _ _ _ => true
  | .bin _ _ _ => true
  | .slice _ _ _ => true
  | .rev _ => true
  | .bi .list _ => true
  | .bi .listRange _ => true
  | .bi .sorted _ => true
  | _ => false
mutual
/-- it writes no variable -/
def calmE : E → Bool
  | .mt .append _ _ => false
  | .mt .pop _ _ => false
  | .mt _ o es => calmE o && calmEs es
  | .bin _ a b => calmE a && calmE b
  | .neg a => calmE a
  | .nt a => calmE a
  | .and es => calmEs es
  | .or es => calmEs es
  | .cmp _ a b => calmE a && calmE b
  | .isN _ a => calmE a
  | .isB _ a _ => calmE a
  | .chain _ _ a b c => calmE a && calmE b && calmE c
  | .ite c a b => calmE c && calmE a && calmE b
  | .tup es => calmEs es
  | .lst es => calmEs es
  | .idx a i => calmE a && calmE i
  | .slice a lo hi => calmE a && calmE lo && calmE hi
  | .rev a => calmE a
  | .call _ es => calmEs es
  | .bi _ es => calmEs es
  | .isinst a _ => calmE a
  | .comp e _ it ts _ => calmE e && calmE it && calmEs ts
  | .dct _ ks _ => calmEs ks
  | .range es => calmEs es
  | .enum a => calmE a
  | .zip a b => calmE a && calmE b
  | .src a => calmE a
  | _ => true
def calmEs : List E → Bool
  | [] => true
  | e :: es => calmE e && calmEs es
end
/-- new, and no other variable is written -/
def frC (e : E) : Bool := fresh e && calmE e
mutual
/-- the variables it names -/
def varsE : E → List Nat
  | .var i => [i]
  | .mt _ o es => varsE o ++ varsEs es
  | .bin _ a b => varsE a ++ varsE b
  | .neg a => varsE a
  | .nt a => varsE a
  | .and es => varsEs es
  | .or es => varsEs es
  | .cmp _ a b => varsE a ++ varsE b
  | .isN _ a => varsE a
  | .isB _ a _ => varsE a
  | .chain _ _ a b c => varsE a ++ varsE b ++ varsE c
  | .ite c a b => varsE c ++ varsE a ++ varsE b
  | .tup es => varsEs es
  | .lst es => varsEs es
  | .idx a i => varsE a ++ varsE i
  | .slice a lo hi => varsE a ++ varsE lo ++ varsE hi
  | .rev a => varsE a
  | .call _ es => varsEs es
  | .bi _ es => varsEs es
  | .isinst a _ => varsE a
  | .comp e _ it ts _ => varsE e ++ varsE it ++ varsEs ts
  | .dct _ ks _ => varsEs ks
  | .range es => varsEs es
  | .enum a => varsE a
  | .zip a b => varsE a ++ varsE b
  | .src a => varsE a
  | _ => []
def varsEs : List E → List Nat
  | [] => []
  | e :: es => varsE e ++ varsEs es
end
/-- they own no more -/
def shareV (env : Env0) : List Nat → Env0
  | [] => env
  | i :: is => match env[i]? with
    | some (some (true, v)) => shareV (env.set i (some (false, v))) is
    | _ => shareV env is
def tru0 (v : VV) (env : Env0) (s : Drw) : R0 Bool := match v with
  | .bl b => .ret b env s
  | _ => .fail
def ifV {α : Type} (v : VV) (env : Env0) (s : Drw) (a b : Env0 → Drw → R0 α) : R0 α := match v with
  | .bl true => a env s
  | .bl false => b env s
  | _ => .fail
def not0 (v : VV) : Option VV := match v with
  | .bl b => some (.bl (!b))
  | _ => none
def neg0 (v : VV) : Option VV := match v with
  | .int i => some (.int (-i))
  | _ => none
def isN0 (neg : Bool) (v : VV) : VV := match v with
  | .non => .bl (!neg)
  | _ => .bl neg
def isB0 (neg b : Bool) (v : VV) : Option VV := match v with
  | .bl c => some (.bl (if neg then !(decide (c = b)) else decide (c = b)))
  | _ => none
def part0 (e : E) (v : VV) : Option (Option Int) := match e with
  | .non => some none
  | _ => match v with
    | .int i => some (some i)
    | _ => none
def opt0 (o : Option (Option Int)) (k : Option Int → R0 VV) : R0 VV := match o with
  | some o => k o
  | none => .fail
def callF (r : RF) (env : Env0) : R0 VV := match r with
  | .ret v s => .ret v env s
  | .exc c s => .exc c s
  | .fail => .fail
def itmV : VV → Option (List VV)
  | .tup xs => some xs
  | .lst xs => some xs
  | .str s => some (s.map fun c => .str [c])
  | _ => none
def enumV (k : Int) : List VV → List VV
  | [] => []
  | v :: vs => .tup [.int k, v] :: enumV (k + 1) vs
def zipV : List VV → List VV → List VV
  | v :: vs, w :: ws => .tup [v, w] :: zipV vs ws
  | _, _ => []
def xsO {α : Type} (o : Option α) (env : Env0) (s : Drw) : R0 α := match o with
  | some v => .ret v env s
  | none => .fail
/-- the loop of a comprehension -/
def lc0 (tg : Tg) (envb : Env0) (tst : Env0 → Drw → R0 Bool) (elt : Env0 → Drw → R0 VV) : List VV → List VV → Drw → Option (List VV × Drw)
  | acc, [], s => some (acc, s)
  | acc, v :: vs, s => match asgV tg v envb with
    | none => none
    | some env => match tst env s with
      | .ret true env1 s1 => match elt env1 s1 with
        | .ret u _ s2 => if le' (acc.length + 1) SL = true then lc0 tg envb tst elt (acc ++ [u]) vs s2 else none
        | _ => none
      | .ret false _ s1 => lc0 tg envb tst elt acc vs s1
      | _ => none
def lcR (env : Env0) (o : Option (List VV × Drw)) : R0 VV := match o with
  | some (xs, s) => .ret (.lst xs) env s
  | none => .fail
def ownsL (env : Env0) (i : Nat) : Bool := match env[i]? with
  | some (some (true, .lst _)) => true
  | _ => false
def tyM0 (m : Mt) (v : VV) : Bool := match m, v with
  | .indexL, .lst _ => true
  | .countL, .lst _ => true
  | .indexS, .str _ => true
  | .join, .str _ => true
  | .split, .str _ => true
  | .get, .dic _ => true
  | _, _ => false
/-- x.append(v): x owns a list -/
def app0 (i : Nat) (v : VV) (env : Env0) (s : Drw) : R0 VV := match env[i]? with
  | some (some (true, .lst xs)) => if le' (xs.length + 1) SL = true then .ret .non (env.set i (some (true, .lst (xs ++ [v])))) s else .fail
  | _ => .fail
def pop0 (i : Nat) (env : Env0) (s : Drw) : R0 VV := match env[i]? with
  | some (some (true, .lst xs)) => match xs.getLast? with
    | some v => .ret v (env.set i (some (true, .lst xs.dropLast))) s
    | none => .fail
  | _ => .fail
/-- a display's pairs -/
def pairUp0 : List VV → Option (List (VV × VV))
  | [] => some []
  | k :: v :: r => (pairUp0 r).map ((k, v) :: ·)
  | _ => none
def dispV (o : Option (List (VV × VV))) : Option VV := match o with
  | some kvs => okO ((kvs.all fun p => isKey0 p.1) && le' kvs.length 15) (.dic (kvs.foldl (fun a p => dPut0 a p.1 p.2) []))
  | none => none
section
variable (cs : List VV) (call : Call0)
mutual
def ev : E → Env0 → Drw → R0 VV
  | .non, env, s => .ret .non env s
  | .bl b, env, s => .ret (.bl b) env s
  | .int i, env, s => .ret (.int i) env s
  | .str t, env, s => .ret (.str t) env s
  | .var i, env, s => readV env i s
  | .gc i, env, s => ofV0 cs[i]? env s
  | .bin op a b, env, s => if calmE b = true then (borrow a env s (ev a env s)).bind fun v env s => (borrow b env s (ev b env s)).bind fun w env s => ofV0 (binV op v w) env s else .fail
  | .neg a, env, s => (ev a env s).bind fun v env s => ofV0 (neg0 v) env s
  | .nt a, env, s => (ev a env s).bind fun v env s => ofV0 (not0 v) env s
  | .and es, env, s => evAnd0 es env s
  | .or es, env, s => evOr0 es env s
  | .cmp op a b, env, s => if calmE b = true then (borrow a env s (ev a env s)).bind fun v env s => (borrow b env s (ev b env s)).bind fun w env s => ofV0 (cmpV op v w) env s else .fail
  | .isN neg a, env, s => (ev a env s).bind fun v env s => .ret (isN0 neg v) env s
  | .isB neg a b, env, s => (ev a env s).bind fun v env s => ofV0 (isB0 neg b v) env s
  | .chain p q a b c, env, s => (ev a env s).bind fun v env s => (ev b env s).bind fun w env s => (ofV0 (cmpV p v w) env s).bind fun x env s => ifV x env s (fun env s => (ev c env s).bind fun u env s => ofV0 (cmpV q w u) env s) fun env s => .ret (.bl false) env s
  | .ite c a b, env, s => (ev c env s).bind fun v env s => ifV v env s (fun env s => ev a env s) (fun env s => ev b env s)
  | .tup es, env, s => (evs es env s).bind fun vs env s => if le' vs.length SL = true then .ret (.tup vs) env s else .fail
  | .lst es, env, s => (evs es env s).bind fun vs env s => if le' vs.length SL = true then .ret (.lst vs) env s else .fail
  | .dct n ks vs, env, s => if n then .fail else match ks with
    | [] => .ret (.dic []) env s
    | k :: ks => (evs (k :: ks) env s).bind fun ws env s => ofV0 (dispV (pairUp0 ws)) env s
  | .idx a i, env, s => if calmE i = true then (borrow a env s (ev a env s)).bind fun v env s => (ev i env s).bind fun w env s => ofV0 (idxV v w) env s else .fail
  | .slice a lo hi, env, s => if (calmE lo && calmE hi) = true then (borrow a env s (ev a env s)).bind fun v env s => (ev lo env s).bind fun l env s => opt0 (part0 lo l) fun l' => (ev hi env s).bind fun u env s => opt0 (part0 hi u) fun u' => ofV0 (sliceV v l' u') env s else .fail
  | .rev a, env, s => (borrow a env s (ev a env s)).bind fun v env s => ofV0 (revV v) env s
  | .attr _ _, _, _ => .fail
  | .call f args, env, s => (evs args env s).bind fun vs env s => callF (call f vs s) env
  | .new _ _ _, _, _ => .fail
  | .meth _ _ _ _ _, _, _ => .fail
  | .bi b args, env, s => (evBs args env s).bind fun vs env s => ofV0 (biV b vs) env s
  | .mt m o args, env, s => match m with
    | .append => match varOf o with
      | some i => if ownsL env i = true then (evs args env s).bind fun vs env s => match vs with
        | [v] => app0 i v env s
        | _ => .fail
        else .fail
      | none => .fail
    | .pop => match varOf o with
      | some i => match args with
        | [] => pop0 i env s
        | _ => .fail
      | none => .fail
    | m => (ev o env s).bind fun v env s => if tyM0 m v = true then (evs args env s).bind fun vs env s => ofV0 (mtV m v vs) env s else .fail
  | .isinst a t, env, s => (borrow a env s (ev a env s)).bind fun v env s => ofV0 (bO (isinVT v t)) env s
  | .comp elt tg it ifs own, env, s => if (calmE elt && calmEs ifs) = true then (evI it env s).bind fun xs env s =>
      lcR (shareV env (varsE elt ++ varsEs ifs)) (lc0 tg (wipe0 (hide (shareV env (varsE elt ++ varsEs ifs))) own) (fun env s => evT ifs env s) (fun env s => ev elt env s) [] xs s) else .fail
  | .range _, _, _ => .fail
  | .enum _, _, _ => .fail
  | .zip _ _, _, _ => .fail
  | .src _, _, _ => .fail
def evs : List E → Env0 → Drw → R0 (List VV)
  | [], env, s => .ret [] env s
  | e :: es, env, s => (ev e env s).bind fun v env s => (evs es env s).bind fun vs env s => .ret (v :: vs) env s
def evBs : List E → Env0 → Drw → R0 (List VV)
  | [], env, s => .ret [] env s
  | [e], env, s => (borrow e env s (ev e env s)).bind fun v env s => .ret [v] env s
  | e :: es, env, s => (ev e env s).bind fun v env s => (evs es env s).bind fun vs env s => .ret (v :: vs) env s
def evAnd0 : List E → Env0 → Drw → R0 VV
  | [], _, _ => .fail
  | [e], env, s => ev e env s
  | e :: f :: es, env, s => (ev e env s).bind fun v env s => ifV v env s (fun env s => evAnd0 (f :: es) env s) fun env s => .ret (.bl false) env s
def evOr0 : List E → Env0 → Drw → R0 VV
  | [], _, _ => .fail
  | [e], env, s => ev e env s
  | e :: f :: es, env, s => (ev e env s).bind fun v env s => ifV v env s (fun env s => .ret (.bl true) env s) fun env s => evOr0 (f :: es) env s
def evT : List E → Env0 → Drw → R0 Bool
  | [], env, s => .ret true env s
  | [e], env, s => (ev e env s).bind fun v env s => tru0 v env s
  | _ :: _ :: _, _, _ => .fail
def evI : E → Env0 → Drw → R0 (List VV)
  | .range args, env, s => (evs args env s).bind fun vs env s => xsO (rangeV vs) env s
  | .enum a, env, s => (ev a env s).bind fun v env s => xsO ((itmV v).map (enumV 0)) env s
  | .zip a b, env, s => (ev a env s).bind fun v env s => (ev b env s).bind fun w env s => match itmV v, itmV w with
    | some xs, some ys => .ret (zipV xs ys) env s
    | _, _ => .fail
  | .src a, env, s => (ev a env s).bind fun v env s => xsO (itmV v) env s
  | _, _, _ => .fail
end
end
end MP.Z

namespace MP.Z
inductive Fl0 where
  | next
  | ret (v : VV)
  | cont
abbrev RS := R0 Fl0
def setP : List Nat → List (Bool × VV) → Env0 → Option Env0
  | [], [], env => some env
  | i :: is, v :: vs, env => setP is vs (env.set i (some v))
  | _, _, _ => none
def asgF (t : Tg) (own : Bool) (v : VV) (env : Env0) (s : Drw) : RS := match t with
  | .name i => .ret .next (env.set i (some (own && isLD v, v))) s
  | t => match asgV t v env with
    | some env => .ret .next env s
    | none => .fail
def envO (o : Option Env0) (s : Drw) : RS := match o with
  | some env => .ret .next env s
  | none => .fail
def seq0 (f : Fl0) (env : Env0) (s : Drw) (k : Env0 → Drw → RS) : RS := match f with
  | .next => k env s
  | f => .ret f env s
def for0 (tg : Tg) (body : Env0 → Drw → RS) : List VV → Env0 → Drw → RS
  | [], env, s => .ret .next env s
  | v :: vs, env, s => match asgV tg v env with
    | none => .fail
    | some env1 => (body env1 s).bind fun f env s => match f with
      | .next => for0 tg body vs env s
      | .cont => for0 tg body vs env s
      | .ret v => .ret (.ret v) env s
def while0 (c : Env0 → Drw → R0 Bool) (body : Env0 → Drw → RS) : Nat → Env0 → Drw → RS
  | 0, _, _ => .fail
  | m + 1, env, s => (c env s).bind fun b env s => if b = true then
      (body env s).bind fun f env s => match f with
        | .next => while0 c body m env s
        | .cont => while0 c body m env s
        | .ret v => .ret (.ret v) env s
    else .ret .next env s
def aug0 (op : BOp) (i : Nat) (u : VV) (w : VV) (own : Bool) (env : Env0) (s : Drw) : RS := match op with
  | .add => match u, w with
    | .int a, .int b => .ret .next (env.set i (some (false, .int (a + b)))) s
    | .lst xs, .lst ys => if (own && le' (xs.length + ys.length) SL) = true then .ret .next (env.set i (some (true, .lst (xs ++ ys)))) s else .fail
    | _, _ => .fail
  | _ => .fail
def augW (op : BOp) (i : Nat) (w : VV) (env : Env0) (s : Drw) : RS := match env[i]? with
  | some (some (own, u)) => aug0 op i u w own env s
  | _ => .fail
def hasV (env : Env0) (i : Nat) : Bool := match env[i]? with
  | some (some _) => true
  | _ => false
def ownsX (env : Env0) (i : Nat) : Bool := match env[i]? with
  | some (some (true, _)) => true
  | _ => false
def seti0 (i : Nat) (k v : VV) (env : Env0) (s : Drw) : RS := match env[i]? with
  | some (some (true, .dic kvs)) => if (isKey0 k && le' (kvs.length + 1) SL) = true then .ret .next (env.set i (some (true, .dic (dPut0 kvs k v)))) s else .fail
  | some (some (true, .lst xs)) => match k with
    | .int j => if (decide (0 ≤ j) && le' (j.toNat + 1) xs.length) = true then .ret .next (env.set i (some (true, .lst (xs.set j.toNat v)))) s else .fail
    | _ => .fail
  | _ => .fail
/-- try: x = e except BindError as n: m = n -/
def try0 (i : Option Nat) (n m ne : Nat) (env : Env0) (r : R0 VV) : RS := match r with
  | .ret v env s => match i with
    | some i => .ret .next (env.set i (some (false, v))) s
    | none => .ret .next env s
  | .exc c s => if Nat.blt c ne = true then .ret .next (((hide env).set m (some (false, .exc c))).set n none) s else .fail
  | .fail => .fail
section
variable (cs : List VV) (call : Call0) (wf : Nat)
def isNil : E → Bool
  | .lst [] => true
  | _ => false
def evP : List E → Env0 → Drw → R0 (List (Bool × VV))
  | [], env, s => .ret [] env s
  | e :: es, env, s => (ev cs call e env s).bind fun v env s => (evP es env s).bind fun vs env s => .ret ((isNil e, v) :: vs) env s
mutual
def x0 : S → Env0 → Drw → RS
  | .asg t e, env, s => (ev cs call e env s).bind fun v env s => asgF t (frC e) v env s
  | .par is es, env, s => (evP cs call es env s).bind fun vs env s => envO (setP is vs env) s
  | .seta _ _ _, _, _ => .fail
  | .seti o i e, env, s => match varOf o with
    | some j => if calmE i = true then (ev cs call e env s).bind fun v env s => if ownsX env j = true then (ev cs call i env s).bind fun k env s => seti0 j k v env s else .fail else .fail
    | none => .fail
  | .aug i op e, env, s => if (calmE e && hasV env i) = true then (borrow e env s (ev cs call e env s)).bind fun w env s => augW op i w env s else .fail
  | .expr e, env, s => (ev cs call e env s).bind fun _ env s => .ret .next env s
  | .ret e, env, s => (ev cs call e env s).bind fun v env s => .ret (.ret v) env s
  | .retN, env, s => .ret (.ret .non) env s
  | .ife c a b, env, s => (ev cs call c env s).bind fun v env s => ifV v env s (fun env s => x0s a env s) (fun env s => x0s b env s)
  | .for t it body, env, s => (evI cs call it env s).bind fun xs env s => for0 t (fun env s => x0s body env s) xs env s
  | .while c body, env, s => while0 (fun env s => (ev cs call c env s).bind fun v env s => tru0 v env s) (fun env s => x0s body env s) wf env s
  | .raise c, env, s => .exc c s
  | .pass, env, s => .ret .next env s
  | .cont, env, s => .ret .cont env s
  | .try_ i e n m ne, env, s => try0 i n m ne env (ev cs call e env s)
def x0s : List S → Env0 → Drw → RS
  | [], env, s => .ret .next env s
  | st :: r, env, s => (x0 st env s).bind fun f env s => seq0 f env s fun env s => x0s r env s
end
end
def rt0 : RS → RF
  | .ret (.ret v) _ s => .ret v s
  | .ret .next _ s => .ret .non s
  | .ret .cont _ _ => .fail
  | .exc c s => .exc c s
  | .fail => .fail
/-- a call of the f-th def; some defs are given from outside -/
def f0 (P : Prog) (cs : List VV) (ext : Nat → Option (Call0 → List VV → Drw → RF)) (wf : Nat) : Nat → Call0
  | 0, _, _, _ => .fail
  | k + 1, f, vs, s => match ext f with
    | some g => g (f0 P cs ext wf k) vs s
    | none => match P.fns[f]? with
      | some d => if vs.length = d.np then rt0 (x0s cs (f0 P cs ext wf k) wf d.body (vs.map (fun v => some (false, v)) ++ List.replicate (d.nl - d.np) none) s) else .fail
      | none => .fail
end MP.Z

/-! ev0 is right: what it gives, the interpreter over the heap gives -/
namespace MP.Z
mutual
/-- a value at a heap; the refs of A are not met. d: the draws -/
inductive Rv (d : Nat) (h : Hq) (A : Nat → Prop) : VV → PV → Prop
  | non : Rv d h A .non .non
  | bl (b : Bool) : Rv d h A (.bl b) (.bl b)
  | int (i : Int) : Rv d h A (.int i) (.int i)
  | str (s : List Nat) : Rv d h A (.str s) (.str s)
  | tup {xs : List VV} {ys : List PV} : RvL d h A xs ys → Rv d h A (.tup xs) (.tup ys)
  | lst {xs : List VV} {ys : List PV} {r : Nat} : ¬ A r → h.get r = some (.lst ys) → RvL d h A xs ys → Rv d h A (.lst xs) (.ref r)
  | dic {xs : List (VV × VV)} {ys : List (PV × PV)} {r : Nat} : ¬ A r → h.get r = some (.dk ys) → RvK d h A xs ys → Rv d h A (.dic xs) (.ref r)
  | drw : Rv d h A .drw (.ref d)
  | exc {c r : Nat} : ¬ A r → h.get r = some (.exc c) → Rv d h A (.exc c) (.ref r)
inductive RvL (d : Nat) (h : Hq) (A : Nat → Prop) : List VV → List PV → Prop
  | nil : RvL d h A [] []
  | cons {v : VV} {p : PV} {vs : List VV} {ps : List PV} : Rv d h A v p → RvL d h A vs ps → RvL d h A (v :: vs) (p :: ps)
inductive RvK (d : Nat) (h : Hq) (A : Nat → Prop) : List (VV × VV) → List (PV × PV) → Prop
  | nil : RvK d h A [] []
  | cons {k : VV} {kp : PV} {v : VV} {p : PV} {vs : List (VV × VV)} {ps : List (PV × PV)} : Rv d h A k kp → Rv d h A v p → RvK d h A vs ps → RvK d h A ((k, v) :: vs) ((kp, p) :: ps)
end
/-- what avoids A at h stands at h', and avoids A' -/
def Mv (h : Hq) (A : Nat → Prop) (h' : Hq) (A' : Nat → Prop) : Prop := ∀ r o, ¬ A r → h.get r = some o → h'.get r = some o ∧ ¬ A' r
theorem getL_some {h : Hq} {r : Nat} {xs : List PV} (e : getL h r = some xs) : h.get r = some (.lst xs) ∨ h.get r = some (.frz xs) := by
  unfold getL at e
  split at e
  · rename_i ys g; cases e; exact .inl g
  · rename_i ys g; cases e; exact .inr g
  · cases e
theorem getL_lst {h : Hq} {r : Nat} {xs : List PV} (e : h.get r = some (.lst xs)) : getL h r = some xs := by unfold getL; rw [e]
theorem getL_frz {h : Hq} {r : Nat} {xs : List PV} (e : h.get r = some (.frz xs)) : getL h r = some xs := by unfold getL; rw [e]
section
variable {d : Nat} {h h' : Hq} {A A' : Nat → Prop}
theorem Mv.getL (m : Mv h A h' A') {r : Nat} {xs : List PV} (a : ¬ A r) (e : MP.getL h r = some xs) : ¬ A' r ∧ MP.getL h' r = some xs := by
  rcases getL_some e with g | g
  · exact ⟨(m r _ a g).2, getL_lst (m r _ a g).1⟩
  · exact ⟨(m r _ a g).2, getL_frz (m r _ a g).1⟩
mutual
theorem Rv.mv (m : Mv h A h' A') : ∀ {v : VV} {p : PV}, Rv d h A v p → Rv d h' A' v p
  | _, _, .non => .non
  | _, _, .bl b => .bl b
  | _, _, .int i => .int i
  | _, _, .str s => .str s
  | _, _, .tup l => .tup (RvL.mv m l)
  | _, _, .lst a e l => .lst (m _ _ a e).2 (m _ _ a e).1 (RvL.mv m l)
  | _, _, .dic a e l => .dic (m _ _ a e).2 (m _ _ a e).1 (RvK.mv m l)
  | _, _, .drw => .drw
  | _, _, .exc a e => .exc (m _ _ a e).2 (m _ _ a e).1
theorem RvL.mv (m : Mv h A h' A') : ∀ {v : List VV} {p : List PV}, RvL d h A v p → RvL d h' A' v p
  | _, _, .nil => .nil
  | _, _, .cons a b => .cons (Rv.mv m a) (RvL.mv m b)
theorem RvK.mv (m : Mv h A h' A') : ∀ {v : List (VV × VV)} {p : List (PV × PV)}, RvK d h A v p → RvK d h' A' v p
  | _, _, .nil => .nil
  | _, _, .cons k a b => .cons (Rv.mv m k) (Rv.mv m a) (RvK.mv m b)
end
theorem RvL.length {vs : List VV} {ps : List PV} (r : RvL d h A vs ps) : vs.length = ps.length := by
  induction vs generalizing ps with
  | nil => cases r; rfl
  | cons v vs ih => cases r with | cons a b => rw [List.length_cons, List.length_cons, ih b]
theorem RvK.length {vs : List (VV × VV)} {ps : List (PV × PV)} (r : RvK d h A vs ps) : vs.length = ps.length := by
  induction vs generalizing ps with
  | nil => cases r; rfl
  | cons v vs ih => cases r with | cons k a b => rw [List.length_cons, List.length_cons, ih b]
theorem RvL.append {vs ws : List VV} {ps qs : List PV} (r : RvL d h A vs ps) (t : RvL d h A ws qs) : RvL d h A (vs ++ ws) (ps ++ qs) := by
  induction vs generalizing ps with
  | nil => cases r; exact t
  | cons v vs ih => cases r with | cons a b => exact .cons a (ih b)
theorem RvL.get {vs : List VV} {ps : List PV} (r : RvL d h A vs ps) : ∀ {i : Nat} {v : VV}, vs[i]? = some v → ∃ p, ps[i]? = some p ∧ Rv d h A v p := by
  induction vs generalizing ps with
  | nil => intro i v e; simp at e
  | cons y ys ih =>
    intro i v e
    cases r with
    | cons a b =>
      cases i with
      | zero => simp at e; subst e; exact ⟨_, rfl, a⟩
      | succ i => obtain ⟨p, h1, h2⟩ := ih b (by simpa using e); exact ⟨p, by simpa using h1, h2⟩
theorem RvL.take {vs : List VV} {ps : List PV} (r : RvL d h A vs ps) : ∀ k : Nat, RvL d h A (vs.take k) (ps.take k) := by
  induction vs generalizing ps with
  | nil => intro k; cases r; rw [List.take_nil, List.take_nil]; exact .nil
  | cons y ys ih =>
    intro k
    cases r with
    | cons a b =>
      cases k with
      | zero => exact .nil
      | succ k => exact .cons a (ih b k)
theorem RvL.drop {vs : List VV} {ps : List PV} (r : RvL d h A vs ps) : ∀ k : Nat, RvL d h A (vs.drop k) (ps.drop k) := by
  induction vs generalizing ps with
  | nil => intro k; cases r; rw [List.drop_nil, List.drop_nil]; exact .nil
  | cons y ys ih =>
    intro k
    cases r with
    | cons a b =>
      cases k with
      | zero => exact .cons a b
      | succ k => exact ih b k
theorem RvL.set {vs : List VV} {ps : List PV} (r : RvL d h A vs ps) {v : VV} {p : PV} (t : Rv d h A v p) : ∀ k : Nat, RvL d h A (vs.set k v) (ps.set k p) := by
  induction vs generalizing ps with
  | nil => intro k; cases r; exact .nil
  | cons y ys ih =>
    intro k
    cases r with
    | cons a b =>
      cases k with
      | zero => exact .cons t b
      | succ k => exact .cons a (ih b k)
theorem RvL.reverse {vs : List VV} {ps : List PV} (r : RvL d h A vs ps) : RvL d h A vs.reverse ps.reverse := by
  induction vs generalizing ps with
  | nil => cases r; exact .nil
  | cons y ys ih =>
    cases r with
    | cons a b =>
      rw [List.reverse_cons, List.reverse_cons]
      exact (ih b).append (.cons a .nil)
theorem RvL.rep {vs : List VV} {ps : List PV} (r : RvL d h A vs ps) : ∀ k : Nat, RvL d h A (List.replicate k vs).flatten (List.replicate k ps).flatten
  | 0 => .nil
  | k + 1 => by
    rw [List.replicate_succ, List.replicate_succ, List.flatten_cons, List.flatten_cons]
    exact r.append (r.rep k)
theorem RvL.dropLast {vs : List VV} {ps : List PV} (r : RvL d h A vs ps) : RvL d h A vs.dropLast ps.dropLast := by
  rw [List.dropLast_eq_take, List.dropLast_eq_take, r.length]; exact r.take _
theorem RvL.getLast {vs : List VV} {ps : List PV} (r : RvL d h A vs ps) {v : VV} (e : vs.getLast? = some v) : ∃ p, ps.getLast? = some p ∧ Rv d h A v p := by
  rw [List.getLast?_eq_getElem?] at e ⊢
  rw [← r.length]
  exact r.get e
theorem RvL.ints : ∀ ns : List Int, RvL d h A (ns.map .int) (intsPV ns)
  | [] => .nil
  | i :: r => .cons (.int i) (RvL.ints r)
theorem RvL.strs : ∀ ns : List (List Nat), RvL d h A (ns.map .str) (strsPV ns)
  | [] => .nil
  | i :: r => .cons (.str i) (RvL.strs r)
/-! ### an owned list, a value in passing -/
def OwnR (d : Nat) (h : Hq) (A : Nat → Prop) (v : VV) (r : Nat) : Prop :=
  (∃ xs ys, v = .lst xs ∧ h.get r = some (.lst ys) ∧ RvL d h A xs ys) ∨ ∃ xs ys, v = .dic xs ∧ h.get r = some (.dk ys) ∧ RvK d h A xs ys
def RvB (d : Nat) (h : Hq) (A : Nat → Prop) (v : VV) (p : PV) : Prop := Rv d h A v p ∨ ∃ r, p = .ref r ∧ OwnR d h A v r
/-- what is a list is new since N -/
def FrV (d : Nat) (N : Nat) (h : Hq) (A : Nat → Prop) (v : VV) (p : PV) : Prop := isLD v = true → ∃ r, p = .ref r ∧ N ≤ r ∧ OwnR d h (fun q => A q ∨ q = r) v r
theorem RvB.lst_inv {xs : List VV} {p : PV} (r : RvB d h A (.lst xs) p) : ∃ q ys, p = .ref q ∧ h.get q = some (.lst ys) ∧ RvL d h A xs ys := by
  rcases r with r | ⟨q, rfl, r⟩
  · cases r with | lst a e l => exact ⟨_, _, rfl, e, l⟩
  · rcases r with ⟨xs', ys, e, g, l⟩ | ⟨xs', ys, e, g, l⟩
    · cases e; exact ⟨q, ys, rfl, g, l⟩
    · cases e
theorem RvB.dic_inv {xs : List (VV × VV)} {p : PV} (r : RvB d h A (.dic xs) p) : ∃ q ys, p = .ref q ∧ h.get q = some (.dk ys) ∧ RvK d h A xs ys := by
  rcases r with r | ⟨q, rfl, r⟩
  · cases r with | dic a e l => exact ⟨_, _, rfl, e, l⟩
  · rcases r with ⟨xs', ys, e, g, l⟩ | ⟨xs', ys, e, g, l⟩
    · cases e
    · cases e; exact ⟨q, ys, rfl, g, l⟩
theorem RvB.own_no {v : VV} {r : Nat} (h0 : isLD v = false) (o : OwnR d h A v r) : False := by
  rcases o with ⟨xs, ys, rfl, _⟩ | ⟨xs, ys, rfl, _⟩ <;> cases h0
theorem RvB.rv {v : VV} {p : PV} (h0 : isLD v = false) (r : RvB d h A v p) : Rv d h A v p := by
  rcases r with r | ⟨q, e, r⟩
  · exact r
  · exact (RvB.own_no h0 r).elim
theorem RvB.tup_inv {xs : List VV} {p : PV} (r : RvB d h A (.tup xs) p) : ∃ ys, p = .tup ys ∧ RvL d h A xs ys := by
  cases r.rv rfl with | tup l => exact ⟨_, rfl, l⟩
theorem RvB.int_inv {i : Int} {p : PV} (r : RvB d h A (.int i) p) : p = .int i := by cases r.rv rfl; rfl
theorem RvB.str_inv {i : List Nat} {p : PV} (r : RvB d h A (.str i) p) : p = .str i := by cases r.rv rfl; rfl
theorem RvB.bl_inv {i : Bool} {p : PV} (r : RvB d h A (.bl i) p) : p = .bl i := by cases r.rv rfl; rfl
theorem RvB.non_inv {p : PV} (r : RvB d h A .non p) : p = .non := by cases r.rv rfl; rfl
/-! ### equality -/
mutual
theorem toD_ok : ∀ (k : Nat) {v : VV} {p : PV} {x : PySem.PyData}, Rv d h A v p → toD0 k v = some x → toD h k p = some x
  | k, .non, _, _, .non, e => by cases k <;> (cases e; rfl)
  | k, .bl b, _, _, .bl _, e => by cases k <;> (cases e; rfl)
  | k, .int i, _, _, .int _, e => by cases k <;> (cases e; rfl)
  | k, .str s, _, _, .str _, e => by cases k <;> (cases e; rfl)
  | 0, .tup xs, _, _, .tup l, e => by cases e
  | k + 1, .tup xs, _, _, .tup l, e => by
    have e : (mapO (toD0 k) xs).map PySem.PyData.tuple = some _ := e
    cases e1 : mapO (toD0 k) xs with
    | none => rw [e1] at e; cases e
    | some ds =>
      rw [e1] at e
      cases e
      show (mapO (toD h k) _).map PySem.PyData.tuple = _
      rw [toDs_ok k l e1]
      rfl
  | 0, .lst xs, _, _, .lst _ _ _, e => by cases e
  | k + 1, .lst xs, _, _, .lst a g l, e => by
    have e : (mapO (toD0 k) xs).map PySem.PyData.list = some _ := e
    cases e1 : mapO (toD0 k) xs with
    | none => rw [e1] at e; cases e
    | some ds =>
      rw [e1] at e
      cases e
      have q := toDs_ok k l e1
      show (match h.get _ with | some (.lst xs) => (mapO (toD h k) xs).map PySem.PyData.list | some (.frz xs) => (mapO (toD h k) xs).map PySem.PyData.list | _ => none) = _
      rw [g]
      show (mapO (toD h k) _).map PySem.PyData.list = _
      rw [q]; rfl
  | 0, .dic _, _, _, .dic _ _ _, e => by cases e
  | k + 1, .dic _, _, _, .dic _ _ _, e => by cases e
  | 0, .drw, _, _, .drw, e => by cases e
  | k + 1, .drw, _, _, .drw, e => by cases e
  | 0, .exc _, _, _, .exc _ _, e => by cases e
  | k + 1, .exc _, _, _, .exc _ _, e => by cases e
theorem toDs_ok : ∀ (k : Nat) {v : List VV} {p : List PV} {x : List PySem.PyData}, RvL d h A v p → mapO (toD0 k) v = some x → mapO (toD h k) p = some x
  | _, [], _, _, .nil, e => by cases e; rfl
  | k, v :: vs, _, _, .cons a b, e => by
    unfold mapO at e
    split at e
    · rename_i y e1
      split at e
      · rename_i ys e2
        cases e
        unfold mapO
        rw [toD_ok k a e1, toDs_ok k b e2]
      · cases e
    · cases e
end
theorem toD_B {v : VV} {p : PV} {x : PySem.PyData} (r : RvB d h A v p) (e : toD0 64 v = some x) : toD h 64 p = some x := by
  rcases r with r | ⟨q, rfl, r⟩
  · exact toD_ok 64 r e
  · rcases r with ⟨xs, ys, rfl, g, l⟩ | ⟨xs, ys, rfl, g, l⟩
    · have e : (mapO (toD0 63) xs).map PySem.PyData.list = some _ := e
      cases e1 : mapO (toD0 63) xs with
      | none => rw [e1] at e; cases e
      | some ds =>
        rw [e1] at e
        cases e
        show (match h.get _ with | some (.lst xs) => (mapO (toD h 63) xs).map PySem.PyData.list | some (.frz xs) => (mapO (toD h 63) xs).map PySem.PyData.list | _ => none) = _
        rw [g]
        show (mapO (toD h 63) _).map PySem.PyData.list = _
        rw [toDs_ok 63 l e1]; rfl
    · cases e
theorem eq_ok {v w : VV} {p q : PV} {b : Bool} (r : RvB d h A v p) (t : RvB d h A w q) (e : eqV v w = some b) : eqS h p q = some b := by
  unfold eqV at e
  split at e
  · rename_i x e1
    split at e
    · rename_i y e2
      unfold eqS
      rw [toD_B r e1, toD_B t e2]
      exact e
    · cases e
  · cases e
/-! ### flat values -/
theorem flat_ok {v : VV} {p : PV} (r : Rv d h A v p) (f : flat0 v = true) : flat p = true := by cases r <;> first | rfl | cases f
theorem eqF_ok {v w : VV} {p q : PV} (r : Rv d h A v p) (t : Rv d h A w q) (f : flat0 v = true) (g : flat0 w = true) : eqF p q = eqF0 v w := by
  cases r <;> first | (exact absurd f Bool.false_ne_true) | (cases t <;> first | (exact absurd g Bool.false_ne_true) | rfl)
theorem flats_ok {vs : List VV} {ps : List PV} (r : RvL d h A vs ps) (f : vs.all flat0 = true) : ps.all flat = true := by
  induction vs generalizing ps with
  | nil => cases r; rfl
  | cons v vs ih =>
    cases r with
    | cons a b =>
      rw [List.all_cons, Bool.and_eq_true] at f ⊢
      exact ⟨flat_ok a f.1, ih b f.2⟩
theorem any_ok {vs : List VV} {ps : List PV} {w : VV} {q : PV} (r : RvL d h A vs ps) (t : Rv d h A w q) (f : vs.all flat0 = true) (g : flat0 w = true) : (ps.any fun y => eqF y q) = vs.any fun y => eqF0 y w := by
  induction vs generalizing ps with
  | nil => cases r; rfl
  | cons v vs ih =>
    cases r with
    | cons a b =>
      rw [List.all_cons, Bool.and_eq_true] at f
      rw [List.any_cons, List.any_cons, eqF_ok a t f.1 g, ih b f.2]
theorem idx_ok {vs : List VV} {ps : List PV} {w : VV} {q : PV} (r : RvL d h A vs ps) (t : Rv d h A w q) (f : vs.all flat0 = true) (g : flat0 w = true) : idxOf (fun y => eqF y q) ps = idxOf (fun y => eqF0 y w) vs := by
  induction vs generalizing ps with
  | nil => cases r; rfl
  | cons v vs ih =>
    cases r with
    | cons a b =>
      rw [List.all_cons, Bool.and_eq_true] at f
      unfold idxOf
      rw [eqF_ok a t f.1 g, ih b f.2]
theorem key_ok {v : VV} {p : PV} (r : Rv d h A v p) (f : isKey0 v = true) : isKey p = true := by cases r <;> first | rfl | cases f
theorem keyEq_ok {v w : VV} {p q : PV} (r : Rv d h A v p) (t : Rv d h A w q) : keyEq p q = keyEq0 v w := by
  cases r <;> cases t <;> rfl
theorem dGet_ok {xs : List (VV × VV)} {ys : List (PV × PV)} {w : VV} {q : PV} (r : RvK d h A xs ys) (t : Rv d h A w q) : (∀ v, dGet0 xs w = some v → ∃ p, dGet ys q = some p ∧ Rv d h A v p) ∧ (dGet0 xs w = none → dGet ys q = none) := by
  induction xs generalizing ys with
  | nil => cases r; exact ⟨fun v e => (by cases e), fun _ => rfl⟩
  | cons kv xs ih =>
    cases r with
    | cons k a b =>
      have ke := keyEq_ok k t
      rename_i k0 kp v0 p0 ps
      cases hk : keyEq0 k0 w with
      | true =>
        have e1 : dGet0 ((k0, v0) :: xs) w = some v0 := by unfold dGet0; rw [List.find?_cons]; simp only [hk]; rfl
        have e2 : dGet ((kp, p0) :: ps) q = some p0 := by unfold dGet; rw [List.find?_cons]; simp only [ke, hk]; rfl
        rw [e1, e2]
        exact ⟨fun v e => (by cases e; exact ⟨_, rfl, a⟩), fun e => (by cases e)⟩
      | false =>
        have e1 : dGet0 ((k0, v0) :: xs) w = dGet0 xs w := by unfold dGet0; rw [List.find?_cons]; simp only [hk]
        have e2 : dGet ((kp, p0) :: ps) q = dGet ps q := by unfold dGet; rw [List.find?_cons]; simp only [ke, hk]
        rw [e1, e2]
        exact ih b
theorem dPut_ok {xs : List (VV × VV)} {ys : List (PV × PV)} {w u : VV} {q p : PV} (r : RvK d h A xs ys) (t : Rv d h A w q) (ru : Rv d h A u p) : RvK d h A (dPut0 xs w u) (dPut ys q p) := by
  have any : ∀ {xs : List (VV × VV)} {ys : List (PV × PV)}, RvK d h A xs ys → (ys.any fun kv => keyEq kv.1 q) = xs.any fun kv => keyEq0 kv.1 w := by
    intro xs
    induction xs with
    | nil => intro ys r; cases r; rfl
    | cons kv xs ih =>
      intro ys r
      cases r with
      | cons k a b => rw [List.any_cons, List.any_cons, keyEq_ok k t, ih b]
  have mp : ∀ {xs : List (VV × VV)} {ys : List (PV × PV)}, RvK d h A xs ys → RvK d h A (xs.map fun kv => if keyEq0 kv.1 w = true then (kv.1, u) else kv) (ys.map fun kv => if keyEq kv.1 q = true then (kv.1, p) else kv) := by
    intro xs
    induction xs with
    | nil => intro ys r; cases r; exact .nil
    | cons kv xs ih =>
      intro ys r
      cases r with
      | cons k a b =>
        rw [List.map_cons, List.map_cons]
        have ke := keyEq_ok k t
        simp only [ke]
        split
        · exact .cons k ru (ih b)
        · exact .cons k a (ih b)
  have app : ∀ {xs : List (VV × VV)} {ys : List (PV × PV)}, RvK d h A xs ys → RvK d h A (xs ++ [(w, u)]) (ys ++ [(q, p)]) := by
    intro xs
    induction xs with
    | nil => intro ys r; cases r; exact .cons t ru .nil
    | cons kv xs ih =>
      intro ys r
      cases r with
      | cons k a b => exact .cons k a (ih b)
  unfold dPut0 dPut
  rw [any r]
  split
  · exact mp r
  · exact app r
/-! ### lists of one kind -/
theorem ints_ok {vs : List VV} {ps : List PV} (r : RvL d h A vs ps) {is : List Int} (e : ints0 vs = some is) : intsOf ps = some is := by
  induction vs generalizing ps is with
  | nil => cases r; cases e; rfl
  | cons v vs ih =>
    cases r with
    | cons a b =>
      cases v <;> try cases e
      cases a
      have e : (ints0 vs).map (_ :: ·) = some is := e
      cases e1 : ints0 vs with
      | none => rw [e1] at e; cases e
      | some js =>
        rw [e1] at e
        cases e
        show (intsOf _).map _ = _
        rw [ih b e1]
        rfl
theorem ints_no {vs : List VV} {ps : List PV} (r : RvL d h A vs ps) (e : ints0 vs = none) : intsOf ps = none := by
  induction vs generalizing ps with
  | nil => cases e
  | cons v vs ih =>
    cases r with
    | cons a b =>
      cases a <;> try rfl
      have e : (ints0 vs).map (_ :: ·) = none := e
      cases e1 : ints0 vs with
      | none => show (intsOf _).map _ = _; rw [ih b e1]; rfl
      | some js => rw [e1] at e; cases e
theorem strs_ok {vs : List VV} {ps : List PV} (r : RvL d h A vs ps) {is : List (List Nat)} (e : strs0 vs = some is) : strsOf ps = some is := by
  induction vs generalizing ps is with
  | nil => cases r; cases e; rfl
  | cons v vs ih =>
    cases r with
    | cons a b =>
      cases v <;> try cases e
      cases a
      have e : (strs0 vs).map (_ :: ·) = some is := e
      cases e1 : strs0 vs with
      | none => rw [e1] at e; cases e
      | some js =>
        rw [e1] at e
        cases e
        show (strsOf _).map _ = _
        rw [ih b e1]
        rfl
theorem bls_ok {vs : List VV} {ps : List PV} (r : RvL d h A vs ps) {is : List Bool} (e : bls0 vs = some is) : blsOf ps = some is := by
  induction vs generalizing ps is with
  | nil => cases r; cases e; rfl
  | cons v vs ih =>
    cases r with
    | cons a b =>
      cases v <;> try cases e
      cases a
      have e : (bls0 vs).map (_ :: ·) = some is := e
      cases e1 : bls0 vs with
      | none => rw [e1] at e; cases e
      | some js =>
        rw [e1] at e
        cases e
        show (blsOf _).map _ = _
        rw [ih b e1]
        rfl
theorem range_ok {vs : List VV} {ps : List PV} (r : RvL d h A vs ps) {xs : List VV} (e : rangeV vs = some xs) : ∃ ys, rangeS ps = some ys ∧ RvL d h A xs ys := by
  have rg : ∀ (n : Nat) (a c : Int), RvL d h A (rangeI0 n a c) (rangeI n a c) := by
    intro n
    induction n with
    | zero => intro a c; exact .nil
    | succ n ih => intro a c; exact .cons (.int a) (ih _ _)
  unfold rangeV at e
  split at e
  · cases r with
    | cons a b =>
      cases b; cases a
      unfold okO at e
      split at e
      · rename_i hs
        cases e
        exact ⟨_, if_pos hs, rg _ _ _⟩
      · cases e
  · cases r with
    | cons a b =>
      cases b with
      | cons a2 b =>
        cases b; cases a; cases a2
        unfold okO at e
        split at e
        · rename_i hs
          cases e
          exact ⟨_, if_pos hs, rg _ _ _⟩
        · cases e
  · cases r with
    | cons a b =>
      cases b with
      | cons a2 b =>
        cases b with
        | cons a3 b =>
          cases b; cases a; cases a2; cases a3
          unfold okO at e
          split at e
          · rename_i hs
            cases e
            exact ⟨_, if_pos hs, rg _ _ _⟩
          · cases e
  · cases e
end
end MP.Z

namespace MP.Z
/-- nothing that stands is written -/
def ExtS (h h' : Hq) : Prop := h.n ≤ h'.n ∧ ∀ r o, h.get r = some o → h'.get r = some o
theorem ExtS.refl {h : Hq} : ExtS h h := ⟨Nat.le_refl _, fun _ _ e => e⟩
theorem ExtS.mv {h h' : Hq} (x : ExtS h h') (A : Nat → Prop) : Mv h A h' A := fun r o a e => ⟨x.2 r o e, a⟩
theorem get_new {h : Hq} {o : LO} : (h.push o).get h.n = some o := by rw [Hq.get_push, if_pos rfl]
theorem get_old {h : Hq} {o u : LO} {r : Nat} (e : h.get r = some u) : (h.push o).get r = some u := by
  rw [Hq.get_push, if_neg (Nat.ne_of_lt (Hq.get_lt e))]; exact e
theorem ExtS.push {h : Hq} {o : LO} : ExtS h (h.push o) := ⟨Nat.le_succ _, fun _ _ e => get_old e⟩
section
variable {d N : Nat} {h : Hq} {A : Nat → Prop}
/-- an operation's result; new if it is a list -/
def OpF (d N : Nat) (h : Hq) (A : Nat → Prop) (t : Res PV) (u : VV) : Prop := t.wp (fun p h' => ExtS h h' ∧ Rv d h' A u p ∧ FrV d N h' A u p) fun _ _ => False
def OpV (d : Nat) (h : Hq) (A : Nat → Prop) (t : Res PV) (u : VV) : Prop := t.wp (fun p h' => ExtS h h' ∧ Rv d h' A u p) fun _ _ => False
theorem OpF.v {t : Res PV} {u : VV} (x : OpF d N h A t u) : OpV d h A t u := Res.wp_mono x (fun p h' ⟨a, b, _⟩ => ⟨a, b⟩) fun _ _ z => z
theorem FrV.no {v : VV} {p : PV} (e : isLD v = false) : FrV d N h A v p := fun z => by rw [e] at z; cases z
theorem OpF.now {v : VV} {p : PV} (e : isLD v = false) (r : Rv d h A v p) : OpF d N h A (.ret p h) v := ⟨ExtS.refl, r, .no e⟩
theorem mv_new {o : LO} : Mv h A (h.push o) (fun q => A q ∨ q = h.n) := fun r u a e => ⟨get_old e, fun z => z.elim a (Nat.ne_of_lt (Hq.get_lt e))⟩
theorem OpF.new {xs : List VV} {ys : List PV} (hA : ∀ r, A r → r < h.n) (hN : N ≤ h.n) (r : RvL d h A xs ys) : OpF d N h A (newLst h ys) (.lst xs) :=
  ⟨ExtS.push, .lst (fun a => Nat.lt_irrefl _ (hA _ a)) get_new (r.mv (ExtS.push.mv A)), fun _ => ⟨h.n, rfl, hN, .inl ⟨xs, ys, rfl, get_new, r.mv mv_new⟩⟩⟩
theorem okO_some {α : Type} {b : Bool} {v u : α} (e : okO b v = some u) : b = true ∧ v = u := by
  unfold okO at e
  split at e
  · rename_i hb; cases e; exact ⟨hb, rfl⟩
  · cases e
theorem OpF.okIf {b : Bool} {t : Res PV} {u : VV} (hb : b = true) (x : OpF d N h A t u) : OpF d N h A (MP.okIf b t) u := by
  unfold MP.okIf
  rw [if_pos hb]
  exact x
theorem add_ok {v w u : VV} {p q : PV} (hA : ∀ r, A r → r < h.n) (hN : N ≤ h.n) (r : RvB d h A v p) (t : RvB d h A w q) (e : addV v w = some u) : OpF d N h A (addS h p q) u := by
  cases v <;> try cases e
  · cases w <;> try cases e
    obtain rfl := r.int_inv
    obtain rfl := t.int_inv
    exact OpF.now rfl (.int _)
  · cases w <;> try cases e
    obtain rfl := r.str_inv
    obtain rfl := t.str_inv
    obtain ⟨hb, rfl⟩ := okO_some e
    exact OpF.okIf hb (OpF.now rfl (.str _))
  · cases w <;> try cases e
    obtain ⟨ys, rfl, l1⟩ := r.tup_inv
    obtain ⟨zs, rfl, l2⟩ := t.tup_inv
    obtain ⟨hb, rfl⟩ := okO_some e
    exact OpF.okIf (by rw [← l1.length, ← l2.length]; exact hb) (OpF.now rfl (.tup (l1.append l2)))
  · cases w <;> try cases e
    obtain ⟨a, ys, rfl, g1, l1⟩ := r.lst_inv
    obtain ⟨b, zs, rfl, g2, l2⟩ := t.lst_inv
    obtain ⟨hb, rfl⟩ := okO_some e
    have n := OpF.new hA hN (l1.append l2)
    have hb : le' (ys.length + zs.length) SL = true := by rw [← l1.length, ← l2.length]; exact hb
    unfold addS
    simp only [g1, g2]
    exact OpF.okIf hb n
theorem mul_ok {v w u : VV} {p q : PV} (hA : ∀ r, A r → r < h.n) (hN : N ≤ h.n) (r : RvB d h A v p) (t : RvB d h A w q) (e : mulV v w = some u) : OpF d N h A (mulS h p q) u := by
  cases v <;> try cases e
  · cases w <;> try cases e
    obtain rfl := r.int_inv
    obtain rfl := t.int_inv
    obtain ⟨hb, rfl⟩ := okO_some e
    exact OpF.okIf hb (OpF.now rfl (.int _))
  · cases w <;> try cases e
    obtain rfl := r.str_inv
    obtain rfl := t.int_inv
    obtain ⟨hb, rfl⟩ := okO_some e
    exact OpF.okIf hb (OpF.now rfl (.str _))
  · cases w <;> try cases e
    obtain ⟨ys, rfl, l1⟩ := r.tup_inv
    obtain rfl := t.int_inv
    obtain ⟨hb, rfl⟩ := okO_some e
    refine OpF.okIf ?_ (OpF.now rfl (.tup (l1.rep _)))
    rw [← l1.length]
    rename_i xs _
    have e2 : ys.isEmpty = xs.isEmpty := by cases l1 <;> rfl
    rw [e2]
    exact hb
  · cases w <;> try cases e
    obtain ⟨a, ys, rfl, g1, l1⟩ := r.lst_inv
    obtain rfl := t.int_inv
    obtain ⟨hb, rfl⟩ := okO_some e
    have n := OpF.new hA hN (l1.rep ‹Int›.toNat)
    unfold mulS
    simp only [g1]
    exact OpF.okIf (by rw [← l1.length]; exact hb) n
theorem bin_ok {op : BOp} {v w u : VV} {p q : PV} (hA : ∀ r, A r → r < h.n) (hN : N ≤ h.n) (r : RvB d h A v p) (t : RvB d h A w q) (e : binV op v w = some u) : OpF d N h A (binS op h p q) u := by
  cases op
  · exact add_ok hA hN r t e
  · cases v <;> try cases e
    cases w <;> try cases e
    obtain rfl := r.int_inv
    obtain rfl := t.int_inv
    exact OpF.now rfl (.int _)
  · exact mul_ok hA hN r t e
  all_goals
    cases v <;> try cases e
    cases w <;> try cases e
    obtain rfl := r.int_inv
    obtain rfl := t.int_inv
    obtain ⟨hb, rfl⟩ := okO_some e
    exact OpF.okIf hb (OpF.now rfl (.int _))
theorem cut_rel {xs : List VV} {ys : List PV} (r : RvL d h A xs ys) (lo hi : Option Int) : RvL d h A (cut xs lo hi) (cut ys lo hi) := by
  unfold cut
  rw [r.length]
  exact (r.drop _).take _
theorem at_ok {xs : List VV} {ys : List PV} (r : RvL d h A xs ys) {i : Int} {v : VV} (e : at' xs i = some v) : ∃ p, at' ys i = some p ∧ Rv d h A v p := by
  unfold at' at e ⊢
  rw [← r.length]
  split at e
  · rename_i h1
    rw [if_pos h1]
    exact r.get e
  · rename_i h1
    rw [if_neg h1]
    split at e
    · rename_i h2
      rw [if_pos h2]
      exact r.get e
    · cases e
theorem ofV_ok {o : Option PV} {v : VV} {p : PV} (e : o = some p) (r : Rv d h A v p) : OpV d h A (ofV h o) v := by
  subst e
  exact ⟨ExtS.refl, r⟩
theorem ofB_ok {o : Option Bool} {b : Bool} (e : o = some b) : OpF d N h A (ofB h o) (.bl b) := by
  subst e
  exact ⟨ExtS.refl, .bl b, .no rfl⟩
theorem idxV_ok {v w u : VV} {p q : PV} (r : RvB d h A v p) (t : Rv d h A w q) (e : idxV v w = some u) : OpV d h A (idxS h p q) u := by
  cases v <;> try cases e
  · cases w <;> try cases e
    obtain rfl := r.str_inv
    obtain rfl := RvB.int_inv (.inl t)
    rename_i s i
    have e : (at' s i).map (fun c => VV.str [c]) = some u := e
    cases e1 : at' s i with
    | none => rw [e1] at e; cases e
    | some c =>
      rw [e1] at e
      cases e
      exact ofV_ok (by show (at' s i).map (fun c => PV.str [c]) = _; rw [e1]; rfl) (.str _)
  · cases w <;> try cases e
    obtain ⟨ys, rfl, l1⟩ := r.tup_inv
    obtain rfl := RvB.int_inv (.inl t)
    obtain ⟨p, e1, e2⟩ := at_ok l1 e
    exact ofV_ok e1 e2
  · cases w <;> try cases e
    obtain ⟨a, ys, rfl, g1, l1⟩ := r.lst_inv
    obtain rfl := RvB.int_inv (.inl t)
    obtain ⟨p, e1, e2⟩ := at_ok l1 e
    unfold idxS
    simp only [g1]
    exact ofV_ok e1 e2
  · rename_i kvs
    obtain ⟨a, ys, rfl, g1, l1⟩ := r.dic_inv
    have e : (if isKey0 w = true then dGet0 kvs w else none) = some u := e
    split at e
    · rename_i hk
      obtain ⟨p, e1, e2⟩ := (dGet_ok l1 t).1 u e
      have hk2 := key_ok t hk
      unfold idxS
      simp only [g1, hk2, if_true]
      exact ofV_ok e1 e2
    · cases e
theorem sliceV_ok {v u : VV} {p : PV} {lo hi : Option Int} (hA : ∀ r, A r → r < h.n) (hN : N ≤ h.n) (r : RvB d h A v p) (e : sliceV v lo hi = some u) : OpF d N h A (sliceS h p lo hi) u := by
  cases v <;> try cases e
  · obtain rfl := r.str_inv
    exact OpF.now rfl (.str _)
  · obtain ⟨ys, rfl, l1⟩ := r.tup_inv
    exact OpF.now rfl (.tup (cut_rel l1 _ _))
  · obtain ⟨a, ys, rfl, g1, l1⟩ := r.lst_inv
    unfold sliceS
    simp only [getL_lst g1]
    exact OpF.new hA hN (cut_rel l1 _ _)
theorem revV_ok {v u : VV} {p : PV} (hA : ∀ r, A r → r < h.n) (hN : N ≤ h.n) (r : RvB d h A v p) (e : revV v = some u) : OpF d N h A (revS h p) u := by
  cases v <;> try cases e
  obtain ⟨a, ys, rfl, g1, l1⟩ := r.lst_inv
  unfold revS
  simp only [getL_lst g1]
  exact OpF.new hA hN l1.reverse
theorem inV_ok {v w : VV} {p q : PV} {b : Bool} (r : RvB d h A v p) (t : RvB d h A w q) (e : inV v w = some b) : inS h p q = some b := by
  cases w <;> try cases e
  · obtain rfl := t.str_inv
    cases v <;> try cases e
    rename_i s l
    obtain rfl := r.str_inv
    cases l with
    | nil => cases e
    | cons c l =>
      cases l with
      | nil => exact e
      | cons c2 l => cases e
  · obtain ⟨ys, rfl, l1⟩ := t.tup_inv
    obtain ⟨hb, hb2⟩ := okO_some e
    rw [Bool.and_eq_true] at hb
    have rv : Rv d h A v p := r.rv (by cases v <;> first | rfl | cases hb.1)
    unfold inS
    simp only [flat_ok rv hb.1, flats_ok l1 hb.2, any_ok l1 rv hb.2 hb.1, Bool.and_self, if_true]
    rw [hb2]
  · obtain ⟨a, ys, rfl, g1, l1⟩ := t.lst_inv
    rename_i xs
    have e : (match toD0 64 v with
      | some d => match mapO (toD0 63) xs with
        | some ds => some (ds.any fun z => PySem.PyData.eqv z d)
        | none => none
      | none => none) = some b := e
    split at e
    · rename_i dd e1
      split at e
      · rename_i ds e2
        cases e
        unfold inS
        simp only [g1]
        rw [toD_B r e1, toDs_ok 63 l1 e2]
      · cases e
    · cases e
  · rename_i kvs
    obtain ⟨a, ys, rfl, g1, l1⟩ := t.dic_inv
    obtain ⟨hb, hb2⟩ := okO_some e
    have rv : Rv d h A v p := r.rv (by cases v <;> first | rfl | cases hb)
    unfold inS
    simp only [g1, key_ok rv hb, if_true]
    have g := dGet_ok l1 rv
    cases e3 : dGet0 kvs v with
    | none => rw [g.2 e3, ← hb2, e3]; rfl
    | some z =>
      obtain ⟨z', e4, _⟩ := g.1 z e3
      rw [e4, ← hb2, e3]; rfl
end
end MP.Z

namespace MP.Z
section
variable {d N : Nat} {h : Hq} {A : Nat → Prop}
theorem bO_some {o : Option Bool} {u : VV} (e : bO o = some u) : ∃ b, o = some b ∧ u = .bl b := by
  cases o with
  | none => cases e
  | some b => cases e; exact ⟨b, rfl, rfl⟩
theorem mapNot {o : Option Bool} {b : Bool} (e : o.map (!·) = some b) : ∃ c, o = some c ∧ b = !c := by
  cases o with
  | none => cases e
  | some c => cases e; exact ⟨c, rfl, rfl⟩
theorem cmp_ok {op : COp} {v w u : VV} {p q : PV} (r : RvB d h A v p) (t : RvB d h A w q) (e : cmpV op v w = some u) : OpF d N h A (cmpS op h p q) u := by
  cases op
  · obtain ⟨b, e1, rfl⟩ := bO_some e
    exact ofB_ok (eq_ok r t e1)
  · obtain ⟨b, e1, rfl⟩ := bO_some e
    obtain ⟨c, e2, rfl⟩ := mapNot e1
    exact ofB_ok (by rw [eq_ok r t e2]; rfl)
  · cases v <;> try cases e
    · cases w <;> try cases e
      obtain rfl := r.int_inv
      obtain rfl := t.int_inv
      exact OpF.now rfl (.bl _)
    · cases w <;> try cases e
      obtain rfl := r.str_inv
      obtain rfl := t.str_inv
      exact OpF.now rfl (.bl _)
  · cases v <;> try cases e
    cases w <;> try cases e
    obtain rfl := r.int_inv
    obtain rfl := t.int_inv
    exact OpF.now rfl (.bl _)
  · cases v <;> try cases e
    cases w <;> try cases e
    obtain rfl := r.int_inv
    obtain rfl := t.int_inv
    exact OpF.now rfl (.bl _)
  · cases v <;> try cases e
    cases w <;> try cases e
    obtain rfl := r.int_inv
    obtain rfl := t.int_inv
    exact OpF.now rfl (.bl _)
  · obtain ⟨b, e1, rfl⟩ := bO_some e
    exact ofB_ok (inV_ok r t e1)
  · obtain ⟨b, e1, rfl⟩ := bO_some e
    obtain ⟨c, e2, rfl⟩ := mapNot e1
    exact ofB_ok (by rw [inV_ok r t e2]; rfl)
theorem isin_ok0 {isa : Nat → Nat → Bool} {v u : VV} {p : PV} {ty : Ty} (r : RvB d h A v p) (e : bO (isinV v ty) = some u) : OpF d N h A (ofB h (isinS isa h p ty)) u := by
  obtain ⟨b, e1, rfl⟩ := bO_some e
  refine ofB_ok ?_
  cases v <;> try cases e1
  · obtain rfl := r.non_inv; rfl
  · obtain rfl := r.bl_inv; rfl
  · obtain rfl := r.int_inv; rfl
  · obtain rfl := r.str_inv; rfl
  · obtain ⟨ys, rfl, _⟩ := r.tup_inv; rfl
  · obtain ⟨a, ys, rfl, g, _⟩ := r.lst_inv
    unfold isinS
    simp only [g]
    all_goals cases ty <;> rfl
theorem isin_ok {isa : Nat → Nat → Bool} {v u : VV} {p : PV} {ty : Ty} (r : RvB d h A v p) (e : bO (isinVT v ty) = some u) : OpF d N h A (ofB h (isinT isa h p ty)) u := by
  cases ty with
  | cls dd n =>
    obtain ⟨b, e1, rfl⟩ := bO_some e
    cases v <;> try cases e1
    rename_i c
    have e1 : (if Nat.blt c n = true then some (isaE c dd) else none) = some b := e1
    split at e1
    · rename_i hc
      cases e1
      have rv := r.rv rfl
      cases rv with
      | exc a g =>
        refine ofB_ok ?_
        unfold isinT isinC
        simp only [g, hc, if_true]
    · cases e1
  | int => exact isin_ok0 (isa := isa) (v := v) (ty := .int) r e
  | bool => exact isin_ok0 (isa := isa) (v := v) (ty := .bool) r e
  | str => exact isin_ok0 (isa := isa) (v := v) (ty := .str) r e
  | list => exact isin_ok0 (isa := isa) (v := v) (ty := .list) r e
  | tuple => exact isin_ok0 (isa := isa) (v := v) (ty := .tuple) r e
theorem count_ok {vs : List VV} {ps : List PV} {w : VV} {q : PV} (r : RvL d h A vs ps) (t : Rv d h A w q) (f : vs.all flat0 = true) (g : flat0 w = true) : ps.countP (fun y => eqF y q) = vs.countP fun y => eqF0 y w := by
  induction vs generalizing ps with
  | nil => cases r; rfl
  | cons v vs ih =>
    cases r with
    | cons a b =>
      rw [List.all_cons, Bool.and_eq_true] at f
      rw [List.countP_cons, List.countP_cons, eqF_ok a t f.1 g, ih b f.2]
theorem len_ok {v u : VV} {p : PV} (r : RvB d h A v p) (e : lenV v = some u) : OpF d N h A (biS .len h [p]) u := by
  cases v <;> try cases e
  · obtain rfl := r.str_inv; exact OpF.now rfl (.int _)
  · obtain ⟨ys, rfl, l⟩ := r.tup_inv
    rw [l.length]
    exact OpF.now rfl (.int _)
  · obtain ⟨a, ys, rfl, g, l⟩ := r.lst_inv
    unfold biS
    simp only [g]
    rw [l.length]
    exact OpF.now rfl (.int _)
  · obtain ⟨a, ys, rfl, g, l⟩ := r.dic_inv
    unfold biS
    simp only [g]
    rw [l.length]
    exact OpF.now rfl (.int _)
theorem list_ok {v u : VV} {p : PV} (hA : ∀ r, A r → r < h.n) (hN : N ≤ h.n) (r : RvB d h A v p) (e : listV v = some u) : OpF d N h A (biS .list h [p]) u := by
  cases v <;> try cases e
  · obtain rfl := r.str_inv
    rename_i s
    refine OpF.new hA hN ?_
    have : ∀ s : List Nat, RvL d h A (s.map fun c => VV.str [c]) (s.map fun c => PV.str [c]) := by
      intro s
      induction s with
      | nil => exact .nil
      | cons c s ih => exact .cons (.str _) ih
    exact this s
  · obtain ⟨ys, rfl, l⟩ := r.tup_inv
    exact OpF.new hA hN l
  · obtain ⟨a, ys, rfl, g, l⟩ := r.lst_inv
    have e : seqOf h (.ref a) = some ys := getL_lst g
    unfold biS
    simp only [e]
    exact OpF.new hA hN l
theorem tuple_ok {v u : VV} {p : PV} (r : RvB d h A v p) (e : tupleV v = some u) : OpF d N h A (biS .tuple h [p]) u := by
  cases v <;> try cases e
  · obtain ⟨ys, rfl, l⟩ := r.tup_inv
    exact OpF.now rfl (.tup l)
  · obtain ⟨a, ys, rfl, g, l⟩ := r.lst_inv
    unfold biS
    simp only [getL_lst g]
    exact OpF.now rfl (.tup l)
theorem sorted_ok {v u : VV} {p : PV} (hA : ∀ r, A r → r < h.n) (hN : N ≤ h.n) (r : RvB d h A v p) (e : sortedV v = some u) : OpF d N h A (biS .sorted h [p]) u := by
  cases v <;> try cases e
  · obtain rfl := r.str_inv
    exact OpF.new hA hN (RvL.strs _)
  obtain ⟨a, ys, rfl, g, l⟩ := r.lst_inv
  rename_i xs
  have e : (match ints0 xs with
    | some is => okO (le' is.length 63) (VV.lst ((sortI is).map .int))
    | none => match strs0 xs with
      | some ss => okO (le' ss.length 63) (VV.lst ((sortS ss).map .str))
      | none => none) = some u := e
  split at e
  · rename_i is e1
    obtain ⟨hb, rfl⟩ := okO_some e
    unfold biS
    simp only [getL_lst g, ints_ok l e1]
    exact OpF.okIf hb (OpF.new hA hN (RvL.ints _))
  · rename_i e1
    split at e
    · rename_i ss e2
      obtain ⟨hb, rfl⟩ := okO_some e
      unfold biS
      simp only [getL_lst g, ints_no l e1, strs_ok l e2]
      exact OpF.okIf hb (OpF.new hA hN (RvL.strs _))
    · cases e
theorem all_ok {v u : VV} {p : PV} (r : RvB d h A v p) (e : allV v = some u) : OpF d N h A (biS .all h [p]) u := by
  cases v <;> try cases e
  obtain ⟨a, ys, rfl, g, l⟩ := r.lst_inv
  rename_i xs
  have e : (match bls0 xs with
    | some bs => some (VV.bl (bs.all id))
    | none => none) = some u := e
  split at e
  · rename_i bs e1
    cases e
    unfold biS
    simp only [getL_lst g, bls_ok l e1]
    exact OpF.now rfl (.bl _)
  · cases e
theorem sum_ok {v u : VV} {p : PV} (r : RvB d h A v p) (e : sumV v = some u) : OpF d N h A (biS .sum h [p]) u := by
  cases v <;> try cases e
  · obtain ⟨ys, rfl, l⟩ := r.tup_inv
    rename_i xs
    have e : (match ints0 xs with
      | some bs => some (VV.int bs.sum)
      | none => none) = some u := e
    split at e
    · rename_i bs e1
      cases e
      unfold biS
      simp only [ints_ok l e1]
      exact OpF.now rfl (.int _)
    · cases e
  obtain ⟨a, ys, rfl, g, l⟩ := r.lst_inv
  rename_i xs
  have e : (match ints0 xs with
    | some bs => some (VV.int bs.sum)
    | none => none) = some u := e
  split at e
  · rename_i bs e1
    cases e
    unfold biS
    simp only [getL_lst g, ints_ok l e1]
    exact OpF.now rfl (.int _)
  · cases e
theorem str_ok {v u : VV} {p : PV} (r : RvB d h A v p) (e : strV v = some u) : OpF d N h A (biS .str h [p]) u := by
  cases v <;> try cases e
  · obtain rfl := r.int_inv
    obtain ⟨hb, rfl⟩ := okO_some e
    exact OpF.okIf hb (OpF.now rfl (.str _))
  · obtain rfl := r.str_inv
    exact OpF.now rfl (.str _)
/-- arguments: one in passing, or all of them kept -/
inductive RvA (d : Nat) (h : Hq) (A : Nat → Prop) : List VV → List PV → Prop
  | one {v : VV} {p : PV} : RvB d h A v p → RvA d h A [v] [p]
  | all {vs : List VV} {ps : List PV} : RvL d h A vs ps → RvA d h A vs ps
theorem RvA.inv1 {v : VV} {ps : List PV} (r : RvA d h A [v] ps) : ∃ p, ps = [p] ∧ RvB d h A v p := by
  cases r with
  | one r => exact ⟨_, rfl, r⟩
  | all r => cases r with | cons a b => cases b; exact ⟨_, rfl, .inl a⟩
theorem RvA.inv2 {v w : VV} {ps : List PV} (r : RvA d h A [v, w] ps) : ∃ p q, ps = [p, q] ∧ Rv d h A v p ∧ Rv d h A w q := by
  cases r with
  | all r => cases r with | cons a b => cases b with | cons b c => cases c; exact ⟨_, _, rfl, a, b⟩
theorem one0_some {f : VV → Option VV} {vs : List VV} {u : VV} (e : one0 f vs = some u) : ∃ v, vs = [v] ∧ f v = some u := by
  cases vs with
  | nil => cases e
  | cons v vs =>
    cases vs with
    | nil => exact ⟨v, rfl, e⟩
    | cons w vs => cases e
theorem min_ok {vs : List VV} {u : VV} {ps : List PV} (r : RvA d h A vs ps) (e : minV vs = some u) : OpF d N h A (biS .min h ps) u := by
  unfold minV at e
  split at e
  · obtain ⟨p, q, rfl, a, b⟩ := r.inv2
    cases a; cases b; cases e
    exact OpF.now rfl (.int _)
  · rename_i xs
    obtain ⟨p, rfl, a⟩ := r.inv1
    obtain ⟨a, ys, rfl, g, l⟩ := a.lst_inv
    split at e
    · rename_i i is e1
      cases e
      unfold biS
      simp only [getL_lst g, ints_ok l e1]
      exact OpF.now rfl (.int _)
    · cases e
  · cases e
theorem max_ok {vs : List VV} {u : VV} {ps : List PV} (r : RvA d h A vs ps) (e : maxV vs = some u) : OpF d N h A (biS .max h ps) u := by
  unfold maxV at e
  split at e
  · obtain ⟨p, q, rfl, a, b⟩ := r.inv2
    cases a; cases b; cases e
    exact OpF.now rfl (.int _)
  · rename_i xs
    obtain ⟨p, rfl, a⟩ := r.inv1
    obtain ⟨a, ys, rfl, g, l⟩ := a.lst_inv
    split at e
    · rename_i i is e1
      cases e
      unfold biS
      simp only [getL_lst g, ints_ok l e1]
      exact OpF.now rfl (.int _)
    · cases e
  · cases e
theorem bi_ok {b : Bi} {vs : List VV} {u : VV} {ps : List PV} (hA : ∀ r, A r → r < h.n) (hN : N ≤ h.n) (r : RvA d h A vs ps) (e : biV b vs = some u) : OpF d N h A (biS b h ps) u := by
  cases b
  · obtain ⟨v, rfl, e⟩ := one0_some e; obtain ⟨p, rfl, t⟩ := r.inv1; exact len_ok t e
  · obtain ⟨v, rfl, e⟩ := one0_some e; obtain ⟨p, rfl, t⟩ := r.inv1; exact list_ok hA hN t e
  · obtain ⟨v, rfl, e⟩ := one0_some e; obtain ⟨p, rfl, t⟩ := r.inv1; exact tuple_ok t e
  · obtain ⟨v, rfl, e⟩ := one0_some e; obtain ⟨p, rfl, t⟩ := r.inv1; exact sorted_ok hA hN t e
  · obtain ⟨v, rfl, e⟩ := one0_some e; obtain ⟨p, rfl, t⟩ := r.inv1; exact all_ok t e
  · exact min_ok r e
  · exact max_ok r e
  · obtain ⟨v, rfl, e⟩ := one0_some e; obtain ⟨p, rfl, t⟩ := r.inv1; exact sum_ok t e
  · cases e
  · obtain ⟨v, rfl, e⟩ := one0_some e; obtain ⟨p, rfl, t⟩ := r.inv1; exact str_ok t e
  · cases e
  · have e : (match rangeV vs with
      | some xs => okO (le' xs.length SL) (VV.lst xs)
      | none => none) = some u := e
    split at e
    · rename_i xs e1
      obtain ⟨hb, rfl⟩ := okO_some e
      have go : ∀ {ps : List PV}, RvL d h A vs ps → OpF d N h A (biS .listRange h ps) (.lst xs) := by
        intro ps r
        obtain ⟨ys, e2, l⟩ := range_ok r e1
        unfold biS
        simp only [e2]
        exact OpF.okIf (by rw [← l.length]; exact hb) (OpF.new hA hN l)
      cases r with
      | all r => exact go r
      | one r =>
        rename_i v p
        cases v <;> try cases e1
        exact go (.cons (r.rv rfl) .nil)
    · cases e
theorem mt_ok {m : Mt} {o u : VV} {vs : List VV} {p : PV} {ps : List PV} (hA : ∀ r, A r → r < h.n) (hN : N ≤ h.n) (r : Rv d h A o p) (t : RvL d h A vs ps) (e : mtV m o vs = some u) : OpV d h A (mtS m h p ps) u := by
  cases m <;> try cases e
  · -- indexL
    cases o <;> try cases e
    rename_i xs
    cases vs with
    | nil => cases e
    | cons w vs =>
      cases vs with
      | cons _ _ => cases e
      | nil =>
        cases t with
        | cons a b =>
          cases b
          obtain ⟨q, ys, rfl, g, l⟩ := RvB.lst_inv (.inl r)
          have e : (if (flat0 w && xs.all flat0) = true then (idxOf (fun y => eqF0 y w) xs).map fun i => VV.int i else none) = some u := e
          split at e
          · rename_i hb
            rw [Bool.and_eq_true] at hb
            cases e1 : idxOf (fun y => eqF0 y w) xs with
            | none => rw [e1] at e; cases e
            | some i =>
              rw [e1] at e
              cases e
              unfold mtS
              simp only [getL_lst g, flat_ok a hb.1, flats_ok l hb.2, idx_ok l a hb.2 hb.1, e1]
              exact ⟨ExtS.refl, .int _⟩
          · cases e
  · -- indexS
    cases o <;> try cases e
    rename_i s
    cases r
    cases vs with
    | nil => cases e
    | cons w vs =>
      cases vs with
      | cons _ _ =>
        cases w <;> try cases e
        rename_i l
        cases l with
        | nil => cases e
        | cons c l => cases l <;> cases e
      | nil =>
        cases t with
        | cons a b =>
          cases b
          cases w <;> try cases e
          rename_i l
          cases l with
          | nil => cases e
          | cons c l =>
            cases l with
            | cons _ _ => cases e
            | nil =>
              cases a
              have e : (idxOf (· == c) s).map (fun i => VV.int i) = some u := e
              cases e1 : idxOf (· == c) s with
              | none => rw [e1] at e; cases e
              | some i =>
                rw [e1] at e
                cases e
                exact ofV_ok (by rw [e1]; rfl) (.int _)
  · -- join
    cases o <;> try cases e
    rename_i s
    cases r
    cases vs with
    | nil => cases e
    | cons w vs =>
      cases vs with
      | cons _ _ => cases e
      | nil =>
        cases t with
        | cons a b =>
          cases b
          cases w <;> try cases e
          rename_i xs
          obtain ⟨q, ys, rfl, g, l⟩ := RvB.lst_inv (.inl a)
          have e : (match strs0 xs with
            | some ss => okO (le' (sumN (ss.map List.length) + ss.length * s.length) SL) (VV.str (joinS s ss))
            | none => none) = some u := e
          split at e
          · rename_i ss e1
            obtain ⟨hb, rfl⟩ := okO_some e
            unfold mtS
            simp only [getL_lst g, strs_ok l e1]
            exact (OpF.okIf (N := 0) hb (OpF.now rfl (.str _))).v
          · cases e
  · -- split
    cases o <;> try cases e
    rename_i s
    cases r
    cases vs with
    | nil => cases e
    | cons w vs =>
      cases vs with
      | cons _ _ => cases w <;> cases e
      | nil =>
        cases t with
        | cons a b =>
          cases b
          cases w <;> try cases e
          cases a
          obtain ⟨hb, rfl⟩ := okO_some e
          exact (OpF.okIf hb (OpF.new hA hN (RvL.strs _))).v
  · -- countL
    cases o <;> try cases e
    rename_i xs
    cases vs with
    | nil => cases e
    | cons w vs =>
      cases vs with
      | cons _ _ => cases e
      | nil =>
        cases t with
        | cons a b =>
          cases b
          obtain ⟨q, ys, rfl, g, l⟩ := RvB.lst_inv (.inl r)
          obtain ⟨hb, rfl⟩ := okO_some e
          rw [Bool.and_eq_true] at hb
          unfold mtS
          simp only [getL_lst g, flat_ok a hb.1, flats_ok l hb.2, count_ok l a hb.2 hb.1]
          exact ⟨ExtS.refl, .int _⟩
  · -- get
    cases o <;> try cases e
    rename_i kvs
    cases vs with
    | nil => cases e
    | cons k vs =>
      cases vs with
      | nil => cases e
      | cons x vs =>
        cases vs with
        | cons _ _ => cases e
        | nil =>
          cases t with
          | cons a b =>
            cases b with
            | cons b c =>
              cases c
              obtain ⟨q, ys, rfl, g, l⟩ := RvB.dic_inv (.inl r)
              obtain ⟨hb, rfl⟩ := okO_some e
              unfold mtS
              simp only [g, key_ok a hb]
              have dg := dGet_ok l a
              cases e1 : dGet0 kvs k with
              | none => rw [dg.2 e1]; exact ⟨ExtS.refl, b⟩
              | some z =>
                obtain ⟨z', e2, rz⟩ := dg.1 z e1
                rw [e2]
                exact ⟨ExtS.refl, rz⟩
end
end MP.Z

namespace MP.Z
/-! ### frames -/
section
variable (D : Nat × Nat)
/-- the draws -/
structure Dr (h : Hq) (s : Drw) : Prop where
  a : h.get D.1 = some (.lst [.ref D.2, .int s.2])
  b : h.get D.2 = some (.lst (intsPV s.1))
  ne : s.1 ≠ []
  ab : D.1 ≠ D.2
def Av (O : Nat → Prop) (own : Nat → Option Nat) (r : Nat) : Prop := O r ∨ (∃ i, own i = some r) ∨ r = D.1 ∨ r = D.2
/-- all but the draws stands -/
def ExtD (h h' : Hq) : Prop := h.n ≤ h'.n ∧ ∀ r o, h.get r = some o → r ≠ D.1 → r ≠ D.2 → h'.get r = some o
structure Fr (h : Hq) (O : Nat → Prop) (own : Nat → Option Nat) (env0 : Env0) (env : Env) (s : Drw) : Prop where
  len : env0.length = env.length
  sh : ∀ (i : Nat) (v : VV), env0[i]? = some (some (false, v)) → ∃ p : PV, env[i]? = some (some p) ∧ Rv D.1 h (Av D O own) v p
  ow : ∀ (i : Nat) (v : VV), env0[i]? = some (some (true, v)) → ∃ r : Nat, own i = some r ∧ env[i]? = some (some (.ref r)) ∧ OwnR D.1 h (Av D O own) v r
  inj : ∀ i j r, own i = some r → own j = some r → i = j
  rg : ∀ i r, own i = some r → r < h.n ∧ ¬ O r ∧ r ≠ D.1 ∧ r ≠ D.2
  ob : ∀ r, O r → r < h.n
  dr : Dr D h s
structure Stp (h : Hq) (own : Nat → Option Nat) (h' : Hq) (own' : Nat → Option Nat) : Prop where
  n : h.n ≤ h'.n
  keep : ∀ r o, h.get r = some o → (∀ i, own i ≠ some r) → r ≠ D.1 → r ≠ D.2 → h'.get r = some o
  own : ∀ i r, own' i = some r → own i = some r ∨ h.n ≤ r
/-- only marks went -/
structure Cm (h : Hq) (own : Nat → Option Nat) (env0 : Env0) (h' : Hq) (own' : Nat → Option Nat) (env0' : Env0) : Prop where
  ext : ExtD D h h'
  own : ∀ i r, own' i = some r → own i = some r
  len : env0'.length = env0.length
  dm : ∀ i : Nat, env0'[i]? = env0[i]? ∨ ∃ v, env0[i]? = some (some (true, v)) ∧ env0'[i]? = some (some (false, v))
end
section
variable {D : Nat × Nat} {h h' h2 : Hq} {O : Nat → Prop} {own own' own2 : Nat → Option Nat} {env0 env0' env02 : Env0} {env : Env} {s s' : Drw}
theorem Stp.refl : Stp D h own h own := ⟨Nat.le_refl _, fun _ _ e _ _ _ => e, fun _ _ e => .inl e⟩
theorem Stp.trans (a : Stp D h own h' own') (b : Stp D h' own' h2 own2) : Stp D h own h2 own2 :=
  ⟨Nat.le_trans a.n b.n, fun r o e n1 n2 n3 => b.keep r o (a.keep r o e n1 n2 n3) (fun i z => (a.own i r z).elim (n1 i) fun z => absurd (Hq.get_lt e) (Nat.not_lt.mpr z)) n2 n3,
   fun i r e => (b.own i r e).elim (a.own i r) fun z => .inr (Nat.le_trans a.n z)⟩
theorem Stp.mv (a : Stp D h own h' own') : Mv h (Av D O own) h' (Av D O own') := fun r o na e =>
  ⟨a.keep r o e (fun i z => na (.inr (.inl ⟨i, z⟩))) (fun z => na (.inr (.inr (.inl z)))) (fun z => na (.inr (.inr (.inr z)))), fun z => by
    rcases z with z | ⟨i, z⟩ | z
    · exact na (.inl z)
    · rcases a.own i r z with z | z
      · exact na (.inr (.inl ⟨i, z⟩))
      · exact absurd (Hq.get_lt e) (Nat.not_lt.mpr z)
    · exact na (.inr (.inr z))⟩
theorem ExtD.refl : ExtD D h h := ⟨Nat.le_refl _, fun _ _ e _ _ => e⟩
theorem ExtD.trans (a : ExtD D h h') (b : ExtD D h' h2) : ExtD D h h2 := ⟨Nat.le_trans a.1 b.1, fun r o e n1 n2 => b.2 r o (a.2 r o e n1 n2) n1 n2⟩
theorem ExtD.stp (a : ExtD D h h') (ho : ∀ i r, own' i = some r → own i = some r) : Stp D h own h' own' := ⟨a.1, fun r o e _ n1 n2 => a.2 r o e n1 n2, fun i r e => .inl (ho i r e)⟩
theorem ExtS.d (a : ExtS h h') : ExtD D h h' := ⟨a.1, fun r o e _ _ => a.2 r o e⟩
theorem Cm.refl : Cm D h own env0 h own env0 := ⟨ExtD.refl, fun _ _ e => e, rfl, fun _ => .inl rfl⟩
theorem Cm.trans (a : Cm D h own env0 h' own' env0') (b : Cm D h' own' env0' h2 own2 env02) : Cm D h own env0 h2 own2 env02 := by
  refine ⟨a.ext.trans b.ext, fun i r e => a.own i r (b.own i r e), b.len.trans a.len, fun i => ?_⟩
  rcases b.dm i with e | ⟨v, e1, e2⟩
  · rcases a.dm i with e' | ⟨v, e1, e2⟩
    · exact .inl (e.trans e')
    · exact .inr ⟨v, e1, e.trans e2⟩
  · rcases a.dm i with e' | ⟨v', e1', e2'⟩
    · exact .inr ⟨v, e'.symm.trans e1, e2⟩
    · rw [e2'] at e1; cases e1
theorem Fr.hA (fr : Fr D h O own env0 env s) : ∀ r, Av D O own r → r < h.n := fun r a => by
  rcases a with a | ⟨i, a⟩ | a | a
  · exact fr.ob r a
  · exact (fr.rg i r a).1
  · rw [a]; exact Hq.get_lt fr.dr.a
  · rw [a]; exact Hq.get_lt fr.dr.b
theorem OwnR.mv {d : Nat} {A A' : Nat → Prop} {v : VV} {r : Nat} (o : OwnR d h A v r) (m : Mv h A h' A') (e : ∀ o, h.get r = some o → h'.get r = some o) : OwnR d h' A' v r := by
  rcases o with ⟨xs, ys, rfl, g, l⟩ | ⟨xs, ys, rfl, g, l⟩
  · exact .inl ⟨xs, ys, rfl, e _ g, l.mv m⟩
  · exact .inr ⟨xs, ys, rfl, e _ g, l.mv m⟩
theorem Dr.extS (x : ExtS h h') (dr : Dr D h s) : Dr D h' s := ⟨x.2 _ _ dr.a, x.2 _ _ dr.b, dr.ne, dr.ab⟩
/-- the heap grew, the draws moved on -/
theorem Fr.extD (fr : Fr D h O own env0 env s) (x : ExtD D h h') (dr : Dr D h' s') : Fr D h' O own env0 env s' := by
  have m : Mv h (Av D O own) h' (Av D O own) := (x.stp fun _ _ e => e).mv
  refine ⟨fr.len, fun i v e => ?_, fun i v e => ?_, fr.inj, fun i r e => ?_, fun r o => Nat.lt_of_lt_of_le (fr.ob r o) x.1, dr⟩
  · obtain ⟨p, h1, h2⟩ := fr.sh i v e
    exact ⟨p, h1, h2.mv m⟩
  · obtain ⟨r, h1, h2, h3⟩ := fr.ow i v e
    exact ⟨r, h1, h2, h3.mv m fun o g => x.2 r o g (fr.rg i r h1).2.2.1 (fr.rg i r h1).2.2.2⟩
  · obtain ⟨a, b, c, d⟩ := fr.rg i r e
    exact ⟨Nat.lt_of_lt_of_le a x.1, b, c, d⟩
theorem Fr.extS (fr : Fr D h O own env0 env s) (x : ExtS h h') : Fr D h' O own env0 env s := fr.extD x.d (fr.dr.extS x)
/-- a slot's ownership -/
def setO' (own : Nat → Option Nat) (i : Nat) (o : Option Nat) : Nat → Option Nat := fun j => if j = i then o else own j
theorem setO_self (own : Nat → Option Nat) (i : Nat) (o : Option Nat) : setO' own i o i = o := if_pos rfl
theorem setO_ne (own : Nat → Option Nat) {i j : Nat} (o : Option Nat) (hj : j ≠ i) : setO' own i o j = own j := if_neg hj
theorem setO_none {i j r : Nat} (e : setO' own i none j = some r) : own j = some r ∧ j ≠ i := by
  unfold setO' at e
  split at e
  · cases e
  · rename_i n; exact ⟨e, n⟩
theorem Av.less {own' : Nat → Option Nat} (ho : ∀ i r, own' i = some r → own i = some r) {r : Nat} (a : Av D O own' r) : Av D O own r := by
  rcases a with a | ⟨i, a⟩ | a
  · exact .inl a
  · exact .inr (.inl ⟨i, ho i r a⟩)
  · exact .inr (.inr a)
theorem Mv.less {A A' : Nat → Prop} (x : ∀ r, A' r → A r) : Mv h A h A' := fun r o a e => ⟨e, fun z => a (x r z)⟩
/-- a shared value into a slot -/
theorem Fr.put (fr : Fr D h O own env0 env s) (i : Nat) {v : VV} {p : PV} (r : Rv D.1 h (Av D O own) v p) : Fr D h O (setO' own i none) (env0.set i (some (false, v))) (env.set i (some p)) s := by
  have m : Mv h (Av D O own) h (Av D O (setO' own i none)) := Mv.less fun r a => a.less fun j r e => (setO_none e).1
  refine ⟨by rw [List.length_set, List.length_set]; exact fr.len, fun j w e => ?_, fun j w e => ?_, fun a b r e1 e2 => fr.inj a b r (setO_none e1).1 (setO_none e2).1, fun j r e => fr.rg j r (setO_none e).1, fr.ob, fr.dr⟩
  · by_cases hj : i = j
    · subst hj
      have hl : i < env0.length := by have := (List.getElem?_eq_some_iff.mp e).1; simpa using this
      rw [List.getElem?_set_self hl] at e
      cases e
      exact ⟨p, by rw [List.getElem?_set_self (by rw [← fr.len]; exact hl)], r.mv m⟩
    · rw [List.getElem?_set_ne hj] at e
      obtain ⟨q, h1, h2⟩ := fr.sh j w e
      exact ⟨q, by rw [List.getElem?_set_ne hj]; exact h1, h2.mv m⟩
  · by_cases hj : i = j
    · subst hj
      have hl : i < env0.length := by have := (List.getElem?_eq_some_iff.mp e).1; simpa using this
      rw [List.getElem?_set_self hl] at e
      cases e
    · rw [List.getElem?_set_ne hj] at e
      obtain ⟨q, h1, h2, h3⟩ := fr.ow j w e
      exact ⟨q, by rw [setO_ne own none (fun z => hj z.symm)]; exact h1, by rw [List.getElem?_set_ne hj]; exact h2, h3.mv m fun _ g => g⟩
theorem set_same {env : Env} {i : Nat} {p : PV} (e : env[i]? = some (some p)) : env.set i (some p) = env := by
  apply List.ext_getElem?
  intro j
  by_cases hj : i = j
  · subst hj
    rw [List.getElem?_set_self (List.getElem?_eq_some_iff.mp e).1, e]
  · rw [List.getElem?_set_ne hj]
/-- a variable read -/
theorem Fr.read (fr : Fr D h O own env0 env s) {i : Nat} {b : Bool} {v : VV} (e : env0[i]? = some (some (b, v))) :
    ∃ p, env[i]? = some (some p) ∧ Fr D h O (setO' own i none) (env0.set i (some (false, v))) env s ∧ Rv D.1 h (Av D O (setO' own i none)) v p := by
  cases b with
  | false =>
    obtain ⟨p, h1, h2⟩ := fr.sh i v e
    have q := fr.put i h2
    rw [set_same h1] at q
    exact ⟨p, h1, q, h2.mv (Mv.less fun r a => a.less fun j r e => (setO_none e).1)⟩
  | true =>
    obtain ⟨r, h1, h2, h3⟩ := fr.ow i v e
    have m : Mv h (Av D O own) h (Av D O (setO' own i none)) := Mv.less fun r a => a.less fun j r e => (setO_none e).1
    have na : ¬ Av D O (setO' own i none) r := by
      intro a
      rcases a with a | ⟨j, a⟩ | a | a
      · exact (fr.rg i r h1).2.1 a
      · exact (setO_none a).2 (fr.inj j i r (setO_none a).1 h1)
      · exact (fr.rg i r h1).2.2.1 a
      · exact (fr.rg i r h1).2.2.2 a
    have rv : Rv D.1 h (Av D O (setO' own i none)) v (.ref r) := by
      rcases h3 with ⟨xs, ys, rfl, g, l⟩ | ⟨xs, ys, rfl, g, l⟩
      · exact .lst na g (l.mv m)
      · exact .dic na g (l.mv m)
    refine ⟨_, h2, ?_, rv⟩
    refine ⟨by rw [List.length_set]; exact fr.len, fun j w e' => ?_, fun j w e' => ?_, fun a b r e1 e2 => fr.inj a b r (setO_none e1).1 (setO_none e2).1, fun j r e => fr.rg j r (setO_none e).1, fr.ob, fr.dr⟩
    · by_cases hj : i = j
      · subst hj
        rw [List.getElem?_set_self (List.getElem?_eq_some_iff.mp e).1] at e'
        cases e'
        exact ⟨_, h2, rv⟩
      · rw [List.getElem?_set_ne hj] at e'
        obtain ⟨q, g1, g2⟩ := fr.sh j w e'
        exact ⟨q, g1, g2.mv m⟩
    · by_cases hj : i = j
      · subst hj
        rw [List.getElem?_set_self (List.getElem?_eq_some_iff.mp e).1] at e'
        cases e'
      · rw [List.getElem?_set_ne hj] at e'
        obtain ⟨q, g1, g2, g3⟩ := fr.ow j w e'
        exact ⟨q, by rw [setO_ne own none (fun z => hj z.symm)]; exact g1, g2, g3.mv m fun _ g => g⟩
theorem cm_read {i : Nat} {b : Bool} {v : VV} (e : env0[i]? = some (some (b, v))) : Cm D h own env0 h (setO' own i none) (env0.set i (some (false, v))) := by
  refine ⟨ExtD.refl, fun j r e => (setO_none e).1, List.length_set .., fun j => ?_⟩
  by_cases hj : i = j
  · subst hj
    rw [List.getElem?_set_self (List.getElem?_eq_some_iff.mp e).1]
    cases b with
    | false => exact .inl e.symm
    | true => exact .inr ⟨v, e, rfl⟩
  · rw [List.getElem?_set_ne hj]; exact .inl rfl
theorem Cm.stp (c : Cm D h own env0 h' own' env0') : Stp D h own h' own' := c.ext.stp c.own
/-- new since h: the frame does not reach it -/
theorem Fr.hideNew {h1 : Hq} {own1 : Nat → Option Nat} {s1 : Drw} {r : Nat} (fr : Fr D h O own env0 env s) (fr1 : Fr D h1 O own1 env0' env s1) (c : Cm D h own env0 h1 own1 env0') (hr : h.n ≤ r) (hr1 : r < h1.n) : Fr D h1 (fun q => O q ∨ q = r) own1 env0' env s1 := by
  have m : Mv h (Av D O own) h1 (Av D (fun q => O q ∨ q = r) own1) := fun q o na e => by
    refine ⟨c.ext.2 q o e (fun z => na (.inr (.inr (.inl z)))) (fun z => na (.inr (.inr (.inr z)))), fun z => ?_⟩
    rcases z with (z | z) | ⟨i, z⟩ | z
    · exact na (.inl z)
    · rw [z] at e; exact absurd (Hq.get_lt e) (Nat.not_lt.mpr hr)
    · exact na (.inr (.inl ⟨i, c.own i q z⟩))
    · exact na (.inr (.inr z))
  have ms : Mv h (Av D O own1) h1 (Av D (fun q => O q ∨ q = r) own1) := fun q o na e => by
    refine ⟨c.ext.2 q o e (fun z => na (.inr (.inr (.inl z)))) (fun z => na (.inr (.inr (.inr z)))), fun z => ?_⟩
    rcases z with (z | z) | z | z
    · exact na (.inl z)
    · rw [z] at e; exact absurd (Hq.get_lt e) (Nat.not_lt.mpr hr)
    · exact na (.inr (.inl z))
    · exact na (.inr (.inr z))
  have owned : ∀ (i : Nat) (v : VV), env0[i]? = some (some (true, v)) → ∃ r' : Nat, own i = some r' ∧ env[i]? = some (some (.ref r')) ∧ OwnR D.1 h1 (Av D (fun q => O q ∨ q = r) own1) v r' := fun i v e => by
    obtain ⟨r', h1', h2', h3'⟩ := fr.ow i v e
    exact ⟨r', h1', h2', h3'.mv m fun o g => c.ext.2 r' o g (fr.rg i r' h1').2.2.1 (fr.rg i r' h1').2.2.2⟩
  refine ⟨fr1.len, fun i v e => ?_, fun i v e => ?_, fr1.inj, fun i q e => ?_, fun q z => z.elim (fr1.ob q) fun z => by rw [z]; exact hr1, fr1.dr⟩
  · rcases c.dm i with e' | ⟨w, e1, e2⟩
    · rw [e'] at e
      obtain ⟨p, g1, g2⟩ := fr.sh i v e
      exact ⟨p, g1, g2.mv m⟩
    · rw [e2] at e
      cases e
      obtain ⟨r', g1, g2, g3⟩ := owned i v e1
      obtain ⟨p, q1, q2⟩ := fr1.sh i v e2
      rw [g2] at q1
      have ep : p = .ref r' := (Option.some.inj (Option.some.inj q1)).symm
      subst ep
      refine ⟨_, g2, ?_⟩
      have na : ¬ Av D (fun q => O q ∨ q = r) own1 r' := by
        have nb : ¬ Av D O own1 r' := by
          cases q2 with
          | lst a _ _ => exact a
          | dic a _ _ => exact a
          | drw => exact fun _ => (fr.rg i _ g1).2.2.1 rfl
          | exc a _ => exact a
        intro z
        rcases z with (z | z) | z
        · exact nb (.inl z)
        · rw [z] at g1; exact absurd (fr.rg i r g1).1 (Nat.not_lt.mpr hr)
        · exact nb (.inr z)
      rcases g3 with ⟨xs, ys, rfl, g, l⟩ | ⟨xs, ys, rfl, g, l⟩
      · exact .lst na g l
      · exact .dic na g l
  · rcases c.dm i with e' | ⟨w, e1, e2⟩
    · obtain ⟨r1, q1, q2, q3⟩ := fr1.ow i v e
      rw [e'] at e
      obtain ⟨r', g1, g2, g3⟩ := owned i v e
      rw [g2] at q2
      have er : r1 = r' := by cases q2; rfl
      rw [er] at q1
      exact ⟨r', q1, g2, g3⟩
    · rw [e2] at e; cases e
  · obtain ⟨a, b, c', d⟩ := fr1.rg i q e
    refine ⟨a, fun z => z.elim b fun z => ?_, c', d⟩
    rw [z] at e
    exact absurd (fr.rg i r (c.own i r e)).1 (Nat.not_lt.mpr hr)
/-- a slot owns a list that none else reaches -/
theorem Fr.take {r : Nat} (fr : Fr D h (fun q => O q ∨ q = r) own env0 env s) (i : Nat) {v : VV} (o : OwnR D.1 h (Av D (fun q => O q ∨ q = r) own) v r) (nO : ¬ O r) (n1 : r ≠ D.1) (n2 : r ≠ D.2) : Fr D h O (setO' own i (some r)) (env0.set i (some (true, v))) (env.set i (some (.ref r))) s := by
  have inv : ∀ {j q}, setO' own i (some r) j = some q → (j = i ∧ q = r) ∨ (j ≠ i ∧ own j = some q) := fun {j q} e => by
    unfold setO' at e
    split at e
    · rename_i hj; cases e; exact .inl ⟨hj, rfl⟩
    · rename_i hj; exact .inr ⟨hj, e⟩
  have m : Mv h (Av D (fun q => O q ∨ q = r) own) h (Av D O (setO' own i (some r))) := Mv.less fun q a => by
    rcases a with a | ⟨j, a⟩ | a
    · exact .inl (.inl a)
    · rcases inv a with ⟨_, e⟩ | ⟨_, e⟩
      · exact .inl (.inr e)
      · exact .inr (.inl ⟨j, e⟩)
    · exact .inr (.inr a)
  have nr : ∀ j, own j ≠ some r := fun j e => (fr.rg j r e).2.1 (.inr rfl)
  refine ⟨by rw [List.length_set, List.length_set]; exact fr.len, fun j w e => ?_, fun j w e => ?_, fun a b q e1 e2 => ?_, fun j q e => ?_, fun q z => fr.ob q (.inl z), fr.dr⟩
  · by_cases hj : i = j
    · subst hj
      have hl : i < env0.length := by have := (List.getElem?_eq_some_iff.mp e).1; simpa using this
      rw [List.getElem?_set_self hl] at e
      cases e
    · rw [List.getElem?_set_ne hj] at e
      obtain ⟨q, h1, h2⟩ := fr.sh j w e
      exact ⟨q, by rw [List.getElem?_set_ne hj]; exact h1, h2.mv m⟩
  · by_cases hj : i = j
    · subst hj
      have hl : i < env0.length := by have := (List.getElem?_eq_some_iff.mp e).1; simpa using this
      rw [List.getElem?_set_self hl] at e
      cases e
      exact ⟨r, setO_self .., by rw [List.getElem?_set_self (by rw [← fr.len]; exact hl)], o.mv m fun _ g => g⟩
    · rw [List.getElem?_set_ne hj] at e
      obtain ⟨q, h1, h2, h3⟩ := fr.ow j w e
      exact ⟨q, by rw [setO_ne own _ (fun z => hj z.symm)]; exact h1, by rw [List.getElem?_set_ne hj]; exact h2, h3.mv m fun _ g => g⟩
  · rcases inv e1 with ⟨x1, y1⟩ | ⟨x1, y1⟩ <;> rcases inv e2 with ⟨x2, y2⟩ | ⟨x2, y2⟩
    · exact x1.trans x2.symm
    · rw [y1] at y2; exact absurd y2 (nr b)
    · rw [y2] at y1; exact absurd y1 (nr a)
    · exact fr.inj a b q y1 y2
  · rcases inv e with ⟨x1, y1⟩ | ⟨x1, y1⟩
    · rw [y1]; exact ⟨fr.ob r (.inr rfl), nO, n1, n2⟩
    · obtain ⟨a, b, c, d⟩ := fr.rg j q y1
      exact ⟨a, fun z => b (.inl z), c, d⟩
/-- an owned list written -/
theorem Fr.write (fr : Fr D h O own env0 env s) {i r : Nat} {v w : VV} {o : LO} (e : own i = some r) (ev : env0[i]? = some (some (true, v))) (hw : OwnR D.1 (h.set r o) (Av D O own) w r) : Fr D (h.set r o) O own (env0.set i (some (true, w))) env s ∧ Stp D h own (h.set r o) own := by
  have hr := (fr.rg i r e).1
  have st : Stp D h own (h.set r o) own := ⟨Nat.le_refl _, fun q u g n1 _ _ => by rw [Hq.get_set h r q o hr, if_neg (fun z => n1 i (by rw [z]; exact e))]; exact g, fun _ _ e => .inl e⟩
  have m : Mv h (Av D O own) (h.set r o) (Av D O own) := st.mv
  have hl : i < env0.length := (List.getElem?_eq_some_iff.mp ev).1
  refine ⟨⟨by rw [List.length_set]; exact fr.len, fun j w' e' => ?_, fun j w' e' => ?_, fr.inj, fr.rg, fr.ob, ?_⟩, st⟩
  · by_cases hj : i = j
    · subst hj
      rw [List.getElem?_set_self hl] at e'
      cases e'
    · rw [List.getElem?_set_ne hj] at e'
      obtain ⟨q, h1, h2⟩ := fr.sh j w' e'
      exact ⟨q, h1, h2.mv m⟩
  · by_cases hj : i = j
    · subst hj
      rw [List.getElem?_set_self hl] at e'
      cases e'
      obtain ⟨q, h1, h2, h3⟩ := fr.ow i v ev
      rw [e] at h1
      cases h1
      exact ⟨r, e, h2, hw⟩
    · rw [List.getElem?_set_ne hj] at e'
      obtain ⟨q, h1, h2, h3⟩ := fr.ow j w' e'
      exact ⟨q, h1, h2, h3.mv m fun u g => by rw [Hq.get_set h r q o hr, if_neg (fun z => hj (fr.inj i j r e (by rw [← z]; exact h1)))]; exact g⟩
  · obtain ⟨a, b, c, d⟩ := fr.dr
    obtain ⟨_, _, x, y⟩ := fr.rg i r e
    exact ⟨by rw [Hq.get_set h r _ o hr, if_neg x.symm]; exact a, by rw [Hq.get_set h r _ o hr, if_neg y.symm]; exact b, c, d⟩
end
end MP.Z

namespace MP.Z
section
variable (D : Nat × Nat) (O : Nat → Prop) (env : Env)
/-- the heap's result and ev0's agree. C: then only marks went -/
def Ok {α β : Type} (h : Hq) (own : Nat → Option Nat) (env0 : Env0) (C : Prop) (t : Res β) (r : R0 α) (Rel : Hq → (Nat → Prop) → α → β → Prop) : Prop := match r with
  | .ret v env0' s' => t.wp (fun p h' => ∃ own', Fr D h' O own' env0' env s' ∧ Stp D h own h' own' ∧ (C → Cm D h own env0 h' own' env0') ∧ Rel h' (Av D O own') v p) fun _ _ => False
  | .exc c s' => t.wp (fun _ _ => False) fun c' h' => c' = c ∧ h.n ≤ h'.n ∧ (∀ r o, h.get r = some o → (∀ i, own i ≠ some r) → r ≠ D.1 → r ≠ D.2 → h'.get r = some o) ∧ Dr D h' s'
  | .fail => True
end
section
variable {D : Nat × Nat} {O : Nat → Prop} {env : Env} {h h' : Hq} {own own' : Nat → Option Nat} {env0 env0' : Env0} {s s' : Drw} {C C' C2 : Prop} {α β γ δ : Type}
theorem Ok.ret {v : α} {p : β} {Rel : Hq → (Nat → Prop) → α → β → Prop} (fr : Fr D h O own env0 env s) (r : Rel h (Av D O own) v p) : Ok D O env h own env0 C (.ret p h) (.ret v env0 s) Rel :=
  ⟨own, fr, Stp.refl, fun _ => Cm.refl, r⟩
theorem Ok.weak {t : Res β} {r : R0 α} {Rel Rel' : Hq → (Nat → Prop) → α → β → Prop} (x : Ok D O env h own env0 C t r Rel) (hc : C' → C) (hr : ∀ h' A v p, Rel h' A v p → Rel' h' A v p) : Ok D O env h own env0 C' t r Rel' := by
  cases r with
  | ret v e s => exact Res.wp_mono x (fun p h' ⟨o, a, b, c, d⟩ => ⟨o, a, b, fun z => c (hc z), hr _ _ _ _ d⟩) fun _ _ z => z
  | exc c s => exact x
  | fail => trivial
theorem Ok.trans {t : Res β} {r : R0 α} {Rel : Hq → (Nat → Prop) → α → β → Prop} (st : Stp D h own h' own') (cm : C → Cm D h own env0 h' own' env0') (x : Ok D O env h' own' env0' C2 t r Rel) : Ok D O env h own env0 (C ∧ C2) t r Rel := by
  cases r with
  | ret v e s => exact Res.wp_mono x (fun p h' ⟨o, a, b, c, d⟩ => ⟨o, a, st.trans b, fun z => (cm z.1).trans (c z.2), d⟩) fun _ _ z => z
  | exc c s =>
    refine Res.wp_mono x (fun _ _ z => z) fun c' h2 ⟨e, n, k, dr⟩ => ⟨e, Nat.le_trans st.n n, fun r o g n1 n2 n3 => k r o (st.keep r o g n1 n2 n3) (fun i z => ?_) n2 n3, dr⟩
    rcases st.own i r z with z | z
    · exact n1 i z
    · exact absurd (Hq.get_lt g) (Nat.not_lt.mpr z)
  | fail => trivial
theorem Ok.bind {t : Res β} {r : R0 α} {g : β → Hq → Res δ} {f : α → Env0 → Drw → R0 γ} {Rel : Hq → (Nat → Prop) → α → β → Prop} {Rel2 : Hq → (Nat → Prop) → γ → δ → Prop} (x : Ok D O env h own env0 C t r Rel)
    (k : ∀ v p h' own' env0' s', Fr D h' O own' env0' env s' → Stp D h own h' own' → (C → Cm D h own env0 h' own' env0') → Rel h' (Av D O own') v p → Ok D O env h' own' env0' C2 (g p h') (f v env0' s') Rel2) : Ok D O env h own env0 (C ∧ C2) (t.bind g) (r.bind f) Rel2 := by
  cases r with
  | fail => trivial
  | exc c s =>
    show (t.bind g).wp _ _
    rw [Res.wp_bind]
    exact Res.wp_mono x (fun _ _ z => z.elim) fun _ _ z => z
  | ret v e s =>
    have x : t.wp _ _ := x
    cases t with
    | fail => exact x.elim
    | exc c h1 => exact x.elim
    | ret p h1 =>
      obtain ⟨o, a, b, c, d⟩ := x
      exact Ok.trans b c (k v p h1 o e s a b c d)
/-- the end of an operation -/
theorem Ok.op {t : Res PV} {u : VV} {N : Nat} (fr : Fr D h O own env0 env s) (x : OpF D.1 N h (Av D O own) t u) : Ok D O env h own env0 C t (.ret u env0 s) (fun h' A v p => Rv D.1 h' A v p ∧ FrV D.1 N h' A v p) :=
  Res.wp_mono x (fun p h' ⟨e, r, f⟩ => ⟨own, fr.extS e, (e.d.stp fun _ _ e => e), fun _ => ⟨e.d, fun _ _ e => e, rfl, fun _ => .inl rfl⟩, r, f⟩) fun _ _ z => z
theorem Ok.opt {t : Res PV} {o : Option VV} {N : Nat} (fr : Fr D h O own env0 env s) (x : ∀ u, o = some u → OpF D.1 N h (Av D O own) t u) : Ok D O env h own env0 C t (ofV0 o env0 s) (fun h' A v p => Rv D.1 h' A v p ∧ FrV D.1 N h' A v p) := by
  cases o with
  | none => trivial
  | some u => exact Ok.op fr (x u rfl)
theorem Ok.optV {t : Res PV} {o : Option VV} (fr : Fr D h O own env0 env s) (x : ∀ u, o = some u → OpV D.1 h (Av D O own) t u) : Ok D O env h own env0 C t (ofV0 o env0 s) (fun h' A v p => Rv D.1 h' A v p) := by
  cases o with
  | none => trivial
  | some u => exact Res.wp_mono (x u rfl) (fun p h' ⟨e, r⟩ => ⟨own, fr.extS e, (e.d.stp fun _ _ e => e), fun _ => ⟨e.d, fun _ _ e => e, rfl, fun _ => .inl rfl⟩, r⟩) fun _ _ z => z
theorem Ok.no {t : Res β} {Rel : Hq → (Nat → Prop) → α → β → Prop} : Ok D O env h own env0 C t (.fail : R0 α) Rel := trivial
/-- a value read in passing -/
def RvP (D : Nat × Nat) (h : Hq) (A : Nat → Prop) (v : VV) (p : PV) : Prop := Rv D.1 h A v p ∨ ∃ r, p = .ref r ∧ r ≠ D.1 ∧ r ≠ D.2 ∧ OwnR D.1 h A v r
theorem RvP.b {A : Nat → Prop} {v : VV} {p : PV} (r : RvP D h A v p) : RvB D.1 h A v p := by
  rcases r with r | ⟨q, e, _, _, o⟩
  · exact .inl r
  · exact .inr ⟨q, e, o⟩
theorem RvP.mv {A A' : Nat → Prop} {v : VV} {p : PV} (r : RvP D h A v p) (m : Mv h A h' A') (x : ExtD D h h') : RvP D h' A' v p := by
  rcases r with r | ⟨q, e, n1, n2, o⟩
  · exact .inl (r.mv m)
  · exact .inr ⟨q, e, n1, n2, o.mv m fun u g => x.2 q u g n1 n2⟩
abbrev RelV (D : Nat × Nat) (N : Nat) (e : E) : Hq → (Nat → Prop) → VV → PV → Prop := fun h' A v p => Rv D.1 h' A v p ∧ (fresh e = true → FrV D.1 N h' A v p)
/-! ### sources -/
inductive SrcR (d : Nat) (h : Hq) (A : Nat → Prop) : List VV → Src → Prop
  | itm {xs : List VV} {ps : List PV} : RvL d h A xs ps → SrcR d h A xs (.itm ps)
  | lst {xs : List VV} {ps : List PV} {r : Nat} : ¬ A r → h.get r = some (.lst ps) → RvL d h A xs ps → SrcR d h A xs (.lst r)
  | enum {xs : List VV} {s : Src} : SrcR d h A xs s → SrcR d h A (enumV 0 xs) (.enum s)
  | zip {xs ys : List VV} {s t : Src} : SrcR d h A xs s → SrcR d h A ys t → SrcR d h A (zipV xs ys) (.zip s t)
theorem SrcR.mv {d : Nat} {A A' : Nat → Prop} (m : Mv h A h' A') {xs : List VV} {s : Src} (r : SrcR d h A xs s) : SrcR d h' A' xs s := by
  induction r with
  | itm l => exact .itm (l.mv m)
  | lst a g l => exact .lst (m _ _ a g).2 (m _ _ a g).1 (l.mv m)
  | enum _ ih => exact .enum ih
  | zip _ _ ih1 ih2 => exact .zip ih1 ih2
theorem enumV_get : ∀ (xs : List VV) (k : Int) (i : Nat), (enumV k xs)[i]? = (xs[i]?).map fun v => VV.tup [.int (k + i), v]
  | [], k, i => by simp [enumV]
  | x :: xs, k, 0 => by simp [enumV]
  | x :: xs, k, i + 1 => by
    unfold enumV
    rw [List.getElem?_cons_succ, List.getElem?_cons_succ, enumV_get xs]
    congr 2
    funext v
    congr 2
    push_cast
    rw [Int.add_assoc, Int.add_comm 1]
theorem enumV_len : ∀ (xs : List VV) (k : Int), (enumV k xs).length = xs.length
  | [], _ => rfl
  | x :: xs, k => by unfold enumV; rw [List.length_cons, List.length_cons, enumV_len xs]
theorem zipV_len : ∀ (xs ys : List VV), (zipV xs ys).length = min xs.length ys.length
  | [], _ => by simp [zipV]
  | _ :: _, [] => by simp [zipV]
  | x :: xs, y :: ys => by unfold zipV; rw [List.length_cons, zipV_len xs ys, List.length_cons, List.length_cons]; omega
theorem zipV_get : ∀ (xs ys : List VV) (i : Nat) (v : VV), (zipV xs ys)[i]? = some v → ∃ x y, xs[i]? = some x ∧ ys[i]? = some y ∧ v = .tup [x, y]
  | [], _, i, v, e => by simp [zipV] at e
  | _ :: _, [], i, v, e => by simp [zipV] at e
  | x :: xs, y :: ys, 0, v, e => by simp [zipV] at e; exact ⟨x, y, rfl, rfl, e.symm⟩
  | x :: xs, y :: ys, i + 1, v, e => by
    unfold zipV at e
    rw [List.getElem?_cons_succ] at e
    obtain ⟨a, b, h1, h2, h3⟩ := zipV_get xs ys i v e
    exact ⟨a, b, by rw [List.getElem?_cons_succ]; exact h1, by rw [List.getElem?_cons_succ]; exact h2, h3⟩
theorem SrcR.at {d : Nat} {A : Nat → Prop} {xs : List VV} {s : Src} (r : SrcR d h A xs s) : ∀ {i : Nat} {v : VV}, xs[i]? = some v → ∃ p, s.at h i = some p ∧ Rv d h A v p := by
  induction r with
  | itm l => intro i v e; exact l.get e
  | lst a g l =>
    intro i v e
    obtain ⟨p, h1, h2⟩ := l.get e
    refine ⟨p, ?_, h2⟩
    unfold Src.at
    simp only [getL_lst g]
    exact h1
  | enum _ ih =>
    intro i v e
    rw [enumV_get] at e
    rename_i xs s _
    cases ex : xs[i]? with
    | none => rw [ex] at e; cases e
    | some w =>
      rw [ex] at e
      cases e
      obtain ⟨p, h1, h2⟩ := ih ex
      refine ⟨.tup [.int i, p], ?_, .tup (.cons (by rw [Int.zero_add]; exact .int _) (.cons h2 .nil))⟩
      show (s.at h i).map _ = _
      rw [h1]; rfl
  | zip _ _ ih1 ih2 =>
    intro i v e
    obtain ⟨x, y, e1, e2, rfl⟩ := zipV_get _ _ _ _ e
    obtain ⟨p, h1, r1⟩ := ih1 e1
    obtain ⟨q, h2, r2⟩ := ih2 e2
    refine ⟨.tup [p, q], ?_, .tup (.cons r1 (.cons r2 .nil))⟩
    unfold Src.at
    simp only [h1, h2]
theorem SrcR.len {d : Nat} {A : Nat → Prop} {xs : List VV} {s : Src} (r : SrcR d h A xs s) : s.len h = some xs.length := by
  induction r with
  | itm l => show some _ = _; rw [l.length]
  | lst a g l =>
    unfold Src.len
    simp only [getL_lst g]
    rw [l.length]
  | enum _ ih => rw [enumV_len]; exact ih
  | zip _ _ ih1 ih2 =>
    unfold Src.len
    simp only [ih1, ih2]
    rw [zipV_len]
theorem SrcR.size {d : Nat} {A : Nat → Prop} {xs : List VV} {s : Src} (r : SrcR d h A xs s) : s.size h = xs.length := by unfold Src.size; rw [r.len]
theorem SrcR.done {d : Nat} {A : Nat → Prop} {xs : List VV} {s : Src} (r : SrcR d h A xs s) : s.done h xs.length = true := by unfold Src.done; rw [r.len]; exact Nat.beq_refl _
theorem itm_src {d : Nat} {A : Nat → Prop} {v : VV} {p : PV} {xs : List VV} (r : Rv d h A v p) (e : itmV v = some xs) : ∃ s, srcOf h p = some s ∧ SrcR d h A xs s := by
  cases r <;> try cases e
  · rename_i s
    refine ⟨_, rfl, .itm ?_⟩
    induction s with
    | nil => exact .nil
    | cons c s ih => exact .cons (.str _) ih
  · rename_i l
    exact ⟨_, rfl, .itm l⟩
  · rename_i a g l
    refine ⟨.lst _, ?_, .lst a g l⟩
    unfold srcOf
    simp only [getL_lst g]
/-! ### targets -/
mutual
theorem asg_ok : ∀ (t : Tg) {v : VV} {p : PV} {own : Nat → Option Nat} {env0 env0' : Env0} {env : Env}, Fr D h O own env0 env s → Rv D.1 h (Av D O own) v p → asgV t v env0 = some env0' →
    ∃ env' own', asgT t p env = some env' ∧ Fr D h O own' env0' env' s ∧ ∀ i r, own' i = some r → own i = some r
  | .name i, v, p, own, env0, env0', env, fr, r, e => by
    cases e
    exact ⟨_, _, rfl, fr.put i r, fun j q z => (setO_none z).1⟩
  | .tup ts, v, p, own, env0, env0', env, fr, r, e => by
    cases v <;> try cases e
    rename_i vs
    cases r with
    | tup l => exact asgs_ok ts fr l e
theorem asgs_ok : ∀ (ts : List Tg) {vs : List VV} {ps : List PV} {own : Nat → Option Nat} {env0 env0' : Env0} {env : Env}, Fr D h O own env0 env s → RvL D.1 h (Av D O own) vs ps → asgVs ts vs env0 = some env0' →
    ∃ env' own', asgTs ts ps env = some env' ∧ Fr D h O own' env0' env' s ∧ ∀ i r, own' i = some r → own i = some r
  | [], vs, ps, own, env0, env0', env, fr, r, e => by
    cases vs with
    | nil => cases r; cases e; exact ⟨_, _, rfl, fr, fun _ _ z => z⟩
    | cons _ _ => cases e
  | t :: ts, vs, ps, own, env0, env0', env, fr, r, e => by
    cases vs with
    | nil => cases e
    | cons v vs =>
      cases r with
      | cons a b =>
        unfold asgVs at e
        split at e
        · rename_i env1 e1
          obtain ⟨env', own1, g1, fr1, l1⟩ := asg_ok t fr a e1
          obtain ⟨env2, own2, g2, fr2, l2⟩ := asgs_ok ts fr1 (b.mv (Mv.less fun q z => z.less l1)) e
          refine ⟨env2, own2, ?_, fr2, fun i q z => l1 i q (l2 i q z)⟩
          unfold asgTs
          simp only [g1]
          exact g2
        · cases e
end
end
end MP.Z

namespace MP.Z
section
variable {D : Nat × Nat} {O : Nat → Prop} {env : Env} {h h' : Hq} {own own' : Nat → Option Nat} {env0 env0' : Env0} {s s' : Drw}
theorem Fr.share : ∀ (is : List Nat) {own : Nat → Option Nat} {env0 : Env0}, Fr D h O own env0 env s → ∃ own', Fr D h O own' (shareV env0 is) env s ∧ Cm D h own env0 h own' (shareV env0 is)
  | [], own, env0, fr => ⟨own, fr, Cm.refl⟩
  | i :: is, own, env0, fr => by
    unfold shareV
    split
    · rename_i v e
      obtain ⟨p, _, fr1, _⟩ := fr.read e
      obtain ⟨o, fr2, c2⟩ := Fr.share is fr1
      exact ⟨o, fr2, (cm_read e).trans c2⟩
    · exact Fr.share is fr
theorem wipe0_get : ∀ (vs : List Nat) (e : Env0) (i : Nat) (x : Bool × VV), (wipe0 e vs)[i]? = some (some x) → e[i]? = some (some x) ∧ i ∉ vs
  | [], e, i, x, h => ⟨h, by simp⟩
  | v :: vs, e, i, x, h => by
    unfold wipe0 at h
    by_cases hv : v = i
    · subst hv
      by_cases hl : v < (wipe0 e vs).length
      · rw [List.getElem?_set_self hl] at h; cases h
      · rw [List.getElem?_eq_none (by rw [List.length_set]; omega)] at h; cases h
    · rw [List.getElem?_set_ne hv] at h
      obtain ⟨h1, h2⟩ := wipe0_get vs e i x h
      exact ⟨h1, fun z => (List.mem_cons.mp z).elim (fun z => hv z.symm) h2⟩
theorem wipeE_get : ∀ (vs : List Nat) (e : Env) (i : Nat), i ∉ vs → (wipeE e vs)[i]? = e[i]?
  | [], e, i, _ => rfl
  | v :: vs, e, i, h => by
    unfold wipeE
    rw [List.getElem?_set_ne (fun z => h (by rw [z]; exact List.mem_cons_self ..)), wipeE_get vs e i fun z => h (List.mem_cons_of_mem _ z)]
theorem wipe0_len : ∀ (vs : List Nat) (e : Env0), (wipe0 e vs).length = e.length
  | [], e => rfl
  | v :: vs, e => by unfold wipe0; rw [List.length_set, wipe0_len vs]
theorem wipeE_len : ∀ (vs : List Nat) (e : Env), (wipeE e vs).length = e.length
  | [], e => rfl
  | v :: vs, e => by unfold wipeE; rw [List.length_set, wipeE_len vs]
theorem hide_get {e : Env0} {i : Nat} {x : Bool × VV} (h : (hide e)[i]? = some (some x)) : x.1 = false ∧ e[i]? = some (some x) := by
  unfold hide at h
  rw [List.getElem?_map] at h
  cases q : e[i]? with
  | none => rw [q] at h; cases h
  | some o =>
    rw [q] at h
    cases o with
    | none => cases h
    | some y =>
      obtain ⟨b, v⟩ := y
      cases b with
      | true => cases h
      | false => cases h; exact ⟨rfl, rfl⟩
abbrev noOwn : Nat → Option Nat := fun _ => none
theorem noOwn_of {own : Nat → Option Nat} (h : ∀ i r, own i = some r → noOwn i = some r) : own = noOwn := by
  funext i
  cases e : own i with
  | none => rfl
  | some r => cases h i r e
/-- the frame of a comprehension's block; its list is at h.n -/
abbrev blkO (O : Nat → Prop) (own : Nat → Option Nat) (d : Nat) : Nat → Prop := fun q => O q ∨ (∃ i, own i = some q) ∨ q = d
theorem Fr.block (fr : Fr D h O own env0 env s) (vs : List Nat) (o : LO) : Fr D (h.push o) (blkO O own h.n) noOwn (wipe0 (hide env0) vs) (wipeE env vs) s := by
  have m : Mv h (Av D O own) (h.push o) (Av D (blkO O own h.n) noOwn) := fun r u na e => ⟨get_old e, fun z => by
    rcases z with (z | z | z) | ⟨i, z⟩ | z
    · exact na (.inl z)
    · exact na (.inr (.inl z))
    · rw [z] at e; exact absurd (Hq.get_lt e) (Nat.lt_irrefl _)
    · cases z
    · exact na (.inr (.inr z))⟩
  refine ⟨by rw [wipe0_len, wipeE_len, ← fr.len]; exact List.length_map .., fun i v e => ?_, fun i v e => ?_, fun _ _ _ e => (by cases e), fun _ _ e => (by cases e), fun r z => ?_, fr.dr.extS ExtS.push⟩
  · obtain ⟨e1, n1⟩ := wipe0_get vs _ i _ e
    obtain ⟨_, e2⟩ := hide_get e1
    obtain ⟨p, g1, g2⟩ := fr.sh i v e2
    exact ⟨p, by rw [wipeE_get vs env i n1]; exact g1, g2.mv m⟩
  · obtain ⟨e1, n1⟩ := wipe0_get vs _ i _ e
    obtain ⟨x, _⟩ := hide_get e1
    cases x
  · show r < h.n + 1
    rcases z with z | ⟨i, z⟩ | z
    · exact Nat.lt_succ_of_lt (fr.ob r z)
    · exact Nat.lt_succ_of_lt (fr.rg i r z).1
    · rw [z]; exact Nat.lt_succ_self _
theorem Fr.setOut {Ob : Nat → Prop} {d : Nat} {o : LO} (fr : Fr D h Ob noOwn env0 env s) (hd : Ob d) (hl : d < h.n) (n1 : d ≠ D.1) (n2 : d ≠ D.2) : Fr D (h.set d o) Ob noOwn env0 env s ∧ Mv h (Av D Ob noOwn) (h.set d o) (Av D Ob noOwn) := by
  have m : Mv h (Av D Ob noOwn) (h.set d o) (Av D Ob noOwn) := fun r u na e => ⟨by rw [Hq.get_set h d r o hl, if_neg (fun z => na (.inl (by rw [z]; exact hd)))]; exact e, na⟩
  refine ⟨⟨fr.len, fun i v e => ?_, fun i v e => ?_, fr.inj, fr.rg, fr.ob, ?_⟩, m⟩
  · obtain ⟨p, g1, g2⟩ := fr.sh i v e
    exact ⟨p, g1, g2.mv m⟩
  · obtain ⟨r, g1, _⟩ := fr.ow i v e
    cases g1
  · obtain ⟨a, b, c, e⟩ := fr.dr
    exact ⟨by rw [Hq.get_set h d _ o hl, if_neg n1.symm]; exact a, by rw [Hq.get_set h d _ o hl, if_neg n2.symm]; exact b, c, e⟩
theorem drop_cons {α : Type} {xs : List α} {i : Nat} {v : α} {vs : List α} (e : xs.drop i = v :: vs) : xs[i]? = some v ∧ xs.drop (i + 1) = vs := by
  constructor
  · have := congrArg (·[0]?) e
    simpa using this
  · have := congrArg (List.drop 1) e
    rw [List.drop_drop] at this
    simpa [Nat.add_comm] using this
theorem lc_ok {Ob : Nat → Prop} {tg : Tg} {own1 : List Nat} {envb0 : Env0} {envb : Env} {d : Nat} {tst : Env → Hq → Res Bool} {elt : Env → Hq → Res PV} {tst0 : Env0 → Drw → R0 Bool} {elt0 : Env0 → Drw → R0 VV} {xs : List VV} {src : Src}
    (ht : ∀ h env0 env s, Fr D h Ob noOwn env0 env s → Ok D Ob env h noOwn env0 True (tst env h) (tst0 env0 s) fun _ _ b b' => b = b')
    (he : ∀ h env0 env s, Fr D h Ob noOwn env0 env s → Ok D Ob env h noOwn env0 True (elt env h) (elt0 env0 s) fun h' A v p => Rv D.1 h' A v p)
    (hd : Ob d) (n1 : d ≠ D.1) (n2 : d ≠ D.2) : ∀ (vs : List VV) (i : Nat) (acc : List VV) (s : Drw) (h : Hq) (ps : List PV), xs.drop i = vs → i + vs.length = xs.length → Fr D h Ob noOwn envb0 envb s → SrcR D.1 h (Av D Ob noOwn) xs src → h.get d = some (.lst ps) → RvL D.1 h (Av D Ob noOwn) acc ps →
      ∀ res s', lc0 tg envb0 tst0 elt0 acc vs s = some (res, s') →
        (lcLoop src tg own1 envb d tst elt xs.length vs.length h).wp (fun p h' => p = .ref d ∧ h.n ≤ h'.n ∧ (∀ r o, h.get r = some o → r ≠ d → r ≠ D.1 → r ≠ D.2 → h'.get r = some o) ∧ Dr D h' s' ∧ ∃ ps', h'.get d = some (.lst ps') ∧ RvL D.1 h' (Av D Ob noOwn) res ps') fun _ _ => False
  | [], i, acc, s, h, ps, hx, hi, fr, sr, g, l, res, s', e => by
    cases e
    show (okIf (src.done h xs.length) (.ret (.ref d) h)).wp _ _
    unfold okIf
    rw [if_pos sr.done]
    exact ⟨rfl, Nat.le_refl _, fun _ _ e _ _ _ => e, fr.dr, ps, g, l⟩
  | v :: vs, i, acc, s, h, ps, hx, hi, fr, sr, g, l, res, s', e => by
    obtain ⟨xe, xd⟩ := drop_cons hx
    obtain ⟨p, pe, pr⟩ := sr.at xe
    rw [List.length_cons] at hi ⊢
    unfold lc0 at e
    split at e
    · cases e
    · rename_i env1 e1
      obtain ⟨env', own1', g1, fr1, lo⟩ := asg_ok tg fr pr e1
      obtain rfl := noOwn_of lo
      unfold lcLoop
      rw [show xs.length - (vs.length + 1) = i by omega]
      simp only [pe, g1, Res.wp_bind]
      have x := ht h env1 env' s fr1
      have one : ∀ {b : Bool} {env2 : Env0} {s1 : Drw}, tst0 env1 s = .ret b env2 s1 → ∃ h1, tst env' h = .ret b h1 ∧ Fr D h1 Ob noOwn env2 env' s1 ∧ ExtD D h h1 := by
        intro b env2 s1 q
        rw [q] at x
        have x : (tst env' h).wp _ _ := x
        cases q2 : tst env' h with
        | fail => rw [q2] at x; exact x.elim
        | exc c h1 => rw [q2] at x; exact x.elim
        | ret b' h1 =>
          rw [q2] at x
          obtain ⟨o, a, st, cm, rfl⟩ := x
          have cm := cm trivial
          obtain rfl := noOwn_of cm.own
          exact ⟨h1, rfl, a, cm.ext⟩
      split at e
      · rename_i env2 s1 q
        obtain ⟨h1, q1, fr2, x1⟩ := one q
        rw [q1]
        simp only [Res.shut, Res.wp_ret, if_true, Res.wp_bind]
        have y := he h1 env2 env' s1 fr2
        split at e
        · rename_i u env3 s2 q2
          rw [q2] at y
          have y : (elt env' h1).wp _ _ := y
          cases q3 : elt env' h1 with
          | fail => rw [q3] at y; exact y.elim
          | exc c h2 => rw [q3] at y; exact y.elim
          | ret w h2 =>
            rw [q3] at y
            obtain ⟨o, a, st, cm, rw'⟩ := y
            have cm := cm trivial
            obtain rfl := noOwn_of cm.own
            have x2 : ExtD D h h2 := x1.trans cm.ext
            have m2 : Mv h (Av D Ob noOwn) h2 (Av D Ob noOwn) := (x2.stp fun _ _ e => e).mv
            have gd : h2.get d = some (.lst ps) := x2.2 d _ g n1 n2
            have hl := Hq.get_lt gd
            simp only [Res.shut, Res.wp_ret, gd]
            split at e
            · rename_i hz
              rw [if_pos (by rw [← l.length]; exact hz)]
              have frb : Fr D h2 Ob noOwn envb0 envb s2 := fr.extD x2 a.dr
              obtain ⟨frc, m3⟩ := frb.setOut (o := .lst (ps ++ [w])) hd hl n1 n2
              have ih := lc_ok (own1 := own1) ht he hd n1 n2 vs (i + 1) (acc ++ [u]) s2 (h2.set d (.lst (ps ++ [w]))) (ps ++ [w]) xd (by omega) frc ((sr.mv m2).mv m3) (by rw [Hq.get_set h2 d d _ hl, if_pos rfl]) (((l.mv m2).mv m3).append (.cons (rw'.mv m3) .nil)) res s' e
              refine Res.wp_mono ih (fun p h' ⟨a1, a2, a3, a4, a5⟩ => ⟨a1, Nat.le_trans x2.1 a2, fun r o e1 k1 k2 k3 => a3 r o (by rw [Hq.get_set h2 d r _ hl, if_neg k1]; exact x2.2 r o e1 k2 k3) k1 k2 k3, a4, a5⟩) fun _ _ z => z
            · cases e
        · cases e
      · rename_i env2 s1 q
        obtain ⟨h1, q1, fr2, x1⟩ := one q
        rw [q1]
        simp only [Res.shut, Res.wp_ret, Bool.false_eq_true, if_false]
        have m2 : Mv h (Av D Ob noOwn) h1 (Av D Ob noOwn) := (x1.stp fun _ _ e => e).mv
        have ih := lc_ok (own1 := own1) ht he hd n1 n2 vs (i + 1) acc s1 h1 ps xd (by omega) (fr.extD x1 fr2.dr) (sr.mv m2) (x1.2 d _ g n1 n2) (l.mv m2) res s' e
        exact Res.wp_mono ih (fun p h' ⟨a1, a2, a3, a4, a5⟩ => ⟨a1, Nat.le_trans x1.1 a2, fun r o e1 k1 k2 k3 => a3 r o (x1.2 r o e1 k2 k3) k1 k2 k3, a4, a5⟩) fun _ _ z => z
      · cases e
end
section
variable {D : Nat × Nat} {O O2 : Nat → Prop} {env : Env} {h h' : Hq} {own own' : Nat → Option Nat} {env0 env0' : Env0} {s s' : Drw}
theorem Fr.setP {x : Nat} {o : LO} (fr : Fr D h O own env0 env s) (hx : O x) (n1 : x ≠ D.1) (n2 : x ≠ D.2) : Fr D (h.set x o) O own env0 env s := by
  have hl := fr.ob x hx
  have m : Mv h (Av D O own) (h.set x o) (Av D O own) := fun r u na e => ⟨by rw [Hq.get_set h x r o hl, if_neg (fun z => na (.inl (by rw [z]; exact hx)))]; exact e, na⟩
  refine ⟨fr.len, fun i v e => ?_, fun i v e => ?_, fr.inj, fr.rg, fr.ob, ?_⟩
  · obtain ⟨p, g1, g2⟩ := fr.sh i v e
    exact ⟨p, g1, g2.mv m⟩
  · obtain ⟨r, g1, g2, g3⟩ := fr.ow i v e
    exact ⟨r, g1, g2, g3.mv m fun u g => by rw [Hq.get_set h x r o hl, if_neg (fun z => (fr.rg i r g1).2.1 (by rw [z]; exact hx))]; exact g⟩
  · obtain ⟨a, b, c, e⟩ := fr.dr
    exact ⟨by rw [Hq.get_set h x _ o hl, if_neg n1.symm]; exact a, by rw [Hq.get_set h x _ o hl, if_neg n2.symm]; exact b, c, e⟩
theorem Fr.lessO (fr : Fr D h O own env0 env s) (l : ∀ x, O2 x → O x) : Fr D h O2 own env0 env s := by
  have m : Mv h (Av D O own) h (Av D O2 own) := Mv.less fun r a => by
    rcases a with a | a
    · exact .inl (l r a)
    · exact .inr a
  refine ⟨fr.len, fun i v e => ?_, fun i v e => ?_, fr.inj, fun i r e => ?_, fun r e => fr.ob r (l r e), fr.dr⟩
  · obtain ⟨p, g1, g2⟩ := fr.sh i v e
    exact ⟨p, g1, g2.mv m⟩
  · obtain ⟨r, g1, g2, g3⟩ := fr.ow i v e
    exact ⟨r, g1, g2, g3.mv m fun _ g => g⟩
  · obtain ⟨a, b, c⟩ := fr.rg i r e
    exact ⟨a, fun z => b (l r z), c⟩
theorem Fr.pushO {o : LO} (fr : Fr D h O own env0 env s) (l : ∀ x, O2 x → O x ∨ x = h.n) : Fr D (h.push o) O2 own env0 env s := by
  have m : Mv h (Av D O own) (h.push o) (Av D O2 own) := fun r u na e => ⟨get_old e, fun a => by
    rcases a with a | a
    · rcases l r a with a | a
      · exact na (.inl a)
      · rw [a] at e; exact absurd (Hq.get_lt e) (Nat.lt_irrefl _)
    · exact na (.inr a)⟩
  refine ⟨fr.len, fun i v e => ?_, fun i v e => ?_, fr.inj, fun i r e => ?_, fun r e => ?_, fr.dr.extS ExtS.push⟩
  · obtain ⟨p, g1, g2⟩ := fr.sh i v e
    exact ⟨p, g1, g2.mv m⟩
  · obtain ⟨r, g1, g2, g3⟩ := fr.ow i v e
    exact ⟨r, g1, g2, g3.mv m fun _ g => get_old g⟩
  · obtain ⟨a, b, c⟩ := fr.rg i r e
    exact ⟨Nat.lt_succ_of_lt a, fun z => by
      rcases l r z with z | z
      · exact b z
      · rw [z] at a; exact absurd a (Nat.lt_irrefl _), c⟩
  · rcases l r e with e | e
    · exact Nat.lt_succ_of_lt (fr.ob r e)
    · rw [e]; exact Nat.lt_succ_self _
end
/-! ### the promise of a def -/
/-- call0 tells what call does -/
def SC (D : Nat × Nat) (call : Call) (call0 : Call0) : Prop := ∀ (i : Nat) (vs : List VV) (ps : List PV) (h : Hq) (s : Drw) (A : Nat → Prop), A D.1 → A D.2 → (∀ r, A r → r < h.n) → RvL D.1 h A vs ps → Dr D h s →
  match call0 i vs s with
  | .ret v s' => (call i ps h).wp (fun p h' => ExtD D h h' ∧ Dr D h' s' ∧ Rv D.1 h' A v p) fun _ _ => False
  | .exc c s' => (call i ps h).wp (fun _ _ => False) fun c' h' => c' = c ∧ ExtD D h h' ∧ Dr D h' s'
  | .fail => True
def ConstsOk (P : Prog) (cs : List VV) : Prop := ∀ (i : Nat) (v : VV), cs[i]? = some v → ∃ p, P.consts[i]? = some p ∧ ∀ d h A, Rv d h A v p
end MP.Z

namespace MP.Z
section
variable {D : Nat × Nat} {P : Prog} {call : Call} {cs : List VV} {call0 : Call0}
theorem bor {O : Nat → Prop} {env : Env} {h : Hq} {own : Nat → Option Nat} {env0 : Env0} {s : Drw} {N : Nat} (e : E) (fr : Fr D h O own env0 env s) (x : Ok D O env h own env0 (calmE e = true) (evE P call e env h) (ev cs call0 e env0 s) (RelV D N e)) :
    Ok D O env h own env0 (calmE e = true) (evE P call e env h) (borrow e env0 s (ev cs call0 e env0 s)) (fun h' A v p => RvP D h' A v p) := by
  cases hv : varOf e with
  | none =>
    have : borrow e env0 s (ev cs call0 e env0 s) = ev cs call0 e env0 s := by unfold borrow; rw [hv]
    rw [this]
    exact x.weak (fun z => z) fun _ _ _ _ z => .inl z.1
  | some i =>
    have he : e = .var i := by
      cases e <;> first | (cases hv; rfl) | cases hv
    subst he
    show Ok D O env h own env0 _ (varF env[i]? h) (peekV env0 i s) _
    unfold peekV
    split
    · rename_i b v e
      cases b with
      | false =>
        obtain ⟨p, g1, g2⟩ := fr.sh i v e
        rw [g1]
        exact Ok.ret fr (.inl g2)
      | true =>
        obtain ⟨r, g1, g2, g3⟩ := fr.ow i v e
        rw [g2]
        exact Ok.ret fr (.inr ⟨r, rfl, (fr.rg i r g1).2.2.1, (fr.rg i r g1).2.2.2, g3⟩)
    · trivial
theorem and2 {a b : Bool} (h : (a && b) = true) : a = true ∧ b = true := by rwa [Bool.and_eq_true] at h
theorem noF {D : Nat × Nat} {N : Nat} {e : E} (hf : fresh e = false) {h' : Hq} {A : Nat → Prop} {v : VV} {p : PV} (r : Rv D.1 h' A v p) : RelV D N e h' A v p := ⟨r, fun z => by rw [hf] at z; cases z⟩
theorem neg0_ok {d N : Nat} {h : Hq} {A : Nat → Prop} {v u : VV} {p : PV} (r : Rv d h A v p) (e : neg0 v = some u) : OpF d N h A (negF p h) u := by
  cases v <;> try cases e
  cases r
  exact OpF.now rfl (.int _)
theorem not0_ok {d N : Nat} {h : Hq} {A : Nat → Prop} {v u : VV} {p : PV} (r : Rv d h A v p) (e : not0 v = some u) : OpF d N h A (notF p h) u := by
  cases v <;> try cases e
  cases r
  exact OpF.now rfl (.bl _)
theorem isB0_ok {d N : Nat} {h : Hq} {A : Nat → Prop} {neg b : Bool} {v u : VV} {p : PV} (r : Rv d h A v p) (e : isB0 neg b v = some u) : OpF d N h A (isBf neg b p h) u := by
  cases v <;> try cases e
  cases r
  exact OpF.now rfl (.bl _)
theorem isN0_ok {d : Nat} {h : Hq} {A : Nat → Prop} {neg : Bool} {v : VV} {p : PV} (r : Rv d h A v p) : Rv d h A (isN0 neg v) (.bl (isNf neg p)) := by
  cases r <;> exact .bl _
theorem ifV_ok {O : Nat → Prop} {env : Env} {h : Hq} {own : Nat → Option Nat} {env0 : Env0} {s : Drw} {C : Prop} {v : VV} {p : PV} {fa fb : Hq → Res PV} {ga gb : Env0 → Drw → R0 VV} {Rel : Hq → (Nat → Prop) → VV → PV → Prop} (fr : Fr D h O own env0 env s) {A : Nat → Prop} (r : Rv D.1 h A v p)
    (xa : Ok D O env h own env0 C (fa h) (ga env0 s) Rel) (xb : Ok D O env h own env0 C (fb h) (gb env0 s) Rel) : Ok D O env h own env0 C (ifB p h fa fb) (ifV v env0 s ga gb) Rel := by
  cases v <;> try trivial
  rename_i b
  cases r
  cases b
  · exact xb
  · exact xa
theorem tru_ok {O : Nat → Prop} {env : Env} {h : Hq} {own : Nat → Option Nat} {env0 : Env0} {s : Drw} {C : Prop} {v : VV} {p : PV} (fr : Fr D h O own env0 env s) {A : Nat → Prop} (r : Rv D.1 h A v p) : Ok D O env h own env0 C (tru p h) (tru0 v env0 s) fun _ _ b b' => b = b' := by
  cases v <;> try trivial
  cases r
  exact Ok.ret fr rfl
theorem part_ok {d : Nat} {h : Hq} {A : Nat → Prop} {e : E} {v : VV} {p : PV} {o : Option Int} (r : Rv d h A v p) (q : part0 e v = some o) : partE e p = some o := by
  cases e <;> first
    | exact q
    | (cases v <;> cases r <;> exact q)
theorem wr_stp {O : Nat → Prop} {env : Env} {h : Hq} {own : Nat → Option Nat} {env0 : Env0} {s : Drw} {i r : Nat} {o : LO} (fr : Fr D h O own env0 env s) (e : own i = some r) : Stp D h own (h.set r o) own :=
  ⟨Nat.le_refl _, fun q u g n1 _ _ => by rw [Hq.get_set h r q o (fr.rg i r e).1, if_neg (fun z => n1 i (by rw [z]; exact e))]; exact g, fun _ _ e => .inl e⟩
theorem pair_ok {d : Nat} {h : Hq} {A : Nat → Prop} : ∀ {vs : List VV} {ps : List PV}, RvL d h A vs ps → ∀ {kvs : List (VV × VV)}, pairUp0 vs = some kvs → ∃ ys, pairUp ps = some ys ∧ RvK d h A kvs ys
  | [], _, .nil, kvs, e => by cases e; exact ⟨[], rfl, .nil⟩
  | [_], _, _, kvs, e => by cases e
  | k :: v :: vs, _, .cons a (.cons b c), kvs, e => by
    have e : (pairUp0 vs).map ((k, v) :: ·) = some kvs := e
    cases e1 : pairUp0 vs with
    | none => rw [e1] at e; cases e
    | some k2 =>
      rw [e1] at e
      cases e
      obtain ⟨ys, h1, h2⟩ := pair_ok c e1
      refine ⟨_ :: ys, ?_, .cons a b h2⟩
      show (pairUp _).map _ = _
      rw [h1]
      rfl
theorem keys_ok {d : Nat} {h : Hq} {A : Nat → Prop} : ∀ {kvs : List (VV × VV)} {ys : List (PV × PV)}, RvK d h A kvs ys → (kvs.all fun p => isKey0 p.1) = true → (ys.all fun p => isKey p.1) = true
  | [], _, .nil, _ => rfl
  | _ :: _, _, .cons a b c, f => by
    rw [List.all_cons, Bool.and_eq_true] at f ⊢
    exact ⟨key_ok a f.1, keys_ok c f.2⟩
theorem puts_ok {d : Nat} {h : Hq} {A : Nat → Prop} : ∀ {kvs : List (VV × VV)} {ys : List (PV × PV)} {acc : List (VV × VV)} {ac : List (PV × PV)}, RvK d h A kvs ys → RvK d h A acc ac → RvK d h A (kvs.foldl (fun a p => dPut0 a p.1 p.2) acc) (ys.foldl (fun a p => dPut a p.1 p.2) ac)
  | [], _, _, _, .nil, r => r
  | _ :: _, _, _, _, .cons a b c, r => by have z := puts_ok c (dPut_ok r a b); exact z
theorem disp_ok {O : Nat → Prop} {env : Env} {h : Hq} {own : Nat → Option Nat} {env0 : Env0} {s : Drw} {k : E} {ks vs : List E} (fr : Fr D h O own env0 env s)
    (hx : Fr D (h.push (.dk [])) (fun q => O q ∨ q = h.n) own env0 env s → Ok D (fun q => O q ∨ q = h.n) env (h.push (.dk [])) own env0 (calmEs (k :: ks) = true) (evEs P call (k :: ks) env (h.push (.dk []))) (evs cs call0 (k :: ks) env0 s) (fun h' A v p => RvL D.1 h' A v p)) :
    Ok D O env h own env0 (calmE (.dct false (k :: ks) vs) = true) (evE P call (.dct false (k :: ks) vs) env h) (ev cs call0 (.dct false (k :: ks) vs) env0 s) (RelV D h.n (.dct false (k :: ks) vs)) := by
  have x := hx (fr.pushO fun x z => z)
  show Ok D O env h own env0 _ ((evEs P call (k :: ks) env (h.push (.dk []))).bind fun ws h1 => dispF h.n h1 (pairUp ws)) ((evs cs call0 (k :: ks) env0 s).bind fun ws env s => ofV0 (dispV (pairUp0 ws)) env s) _
  have old : ∀ r o, h.get r = some o → (h.push (.dk [])).get r = some o := fun r o e => get_old e
  cases e : evs cs call0 (k :: ks) env0 s with
  | fail => trivial
  | exc c s1 =>
    rw [e] at x
    show (Res.bind _ _).wp _ _
    rw [Res.wp_bind]
    exact Res.wp_mono x (fun _ _ z => z.elim) fun c' h' ⟨a, b, k, d⟩ => ⟨a, Nat.le_trans (Nat.le_succ _) b, fun r o e n1 n2 n3 => k r o (old r o e) n1 n2 n3, d⟩
  | ret ws env1 s1 =>
    rw [e] at x
    show Ok D O env h own env0 _ _ (ofV0 (dispV (pairUp0 ws)) env1 s1) _
    cases e2 : dispV (pairUp0 ws) with
    | none => trivial
    | some u =>
      show (Res.bind _ _).wp _ _
      rw [Res.wp_bind]
      refine Res.wp_mono x (fun ps h1 ⟨own1, fr1, st1, cm1, r1⟩ => ?_) fun _ _ z => z
      cases e3 : pairUp0 ws with
      | none => rw [e3] at e2; cases e2
      | some kvs =>
        rw [e3] at e2
        obtain ⟨hb, rfl⟩ := okO_some e2
        rw [Bool.and_eq_true] at hb
        obtain ⟨ys, e4, rk⟩ := pair_ok r1 e3
        have n0 : ∀ i, own i ≠ some h.n := fun i z => Nat.lt_irrefl _ (fr.rg i _ z).1
        have d1 : h.n ≠ D.1 := Nat.ne_of_gt (Hq.get_lt fr.dr.a)
        have d2 : h.n ≠ D.2 := Nat.ne_of_gt (Hq.get_lt fr.dr.b)
        have g : h1.get h.n = some (.dk []) := st1.keep h.n _ get_new n0 d1 d2
        have hlt := Hq.get_lt g
        have nA : ¬ Av D O own1 h.n := fun z => by
          rcases z with z | ⟨i, z⟩ | z | z
          · exact Nat.lt_irrefl _ (fr.ob _ z)
          · rcases st1.own i _ z with z | z
            · exact n0 i z
            · exact absurd z (Nat.not_lt.mpr (Nat.le_refl _))
          · exact d1 z
          · exact d2 z
        have el : kvs.length = ys.length := rk.length
        have ed : dispF h.n h1 (pairUp ps) = .ret (.ref h.n) (h1.set h.n (.dk (ys.foldl (fun a p => dPut a p.1 p.2) []))) := by
          rw [e4]
          unfold dispF
          simp only [g]
          unfold okIf
          rw [if_pos (by rw [Bool.and_eq_true]; exact ⟨keys_ok rk hb.1, by rw [← el]; exact hb.2⟩)]
        rw [ed]
        have fr2 := (fr1.setP (o := .dk (ys.foldl (fun a p => dPut a p.1 p.2) [])) (.inr rfl) d1 d2).lessO (O2 := O) fun x z => .inl z
        have ne : ∀ r o, h.get r = some o → r ≠ h.n := fun r o e z => by rw [z] at e; exact Nat.lt_irrefl _ (Hq.get_lt e)
        have gn : ∀ r, r ≠ h.n → (h1.set h.n (.dk (ys.foldl (fun a p => dPut a p.1 p.2) []))).get r = h1.get r := fun r hr => by rw [Hq.get_set h1 h.n r _ hlt, if_neg hr]
        have gs : (h1.set h.n (.dk (ys.foldl (fun a p => dPut a p.1 p.2) []))).get h.n = some (.dk (ys.foldl (fun a p => dPut a p.1 p.2) [])) := by rw [Hq.get_set h1 h.n h.n _ hlt, if_pos rfl]
        have m : ∀ A', (∀ r, A' r → Av D (fun q => O q ∨ q = h.n) own1 r) → Mv h1 (Av D (fun q => O q ∨ q = h.n) own1) (h1.set h.n (.dk (ys.foldl (fun a p => dPut a p.1 p.2) []))) A' := fun A' hA r o na e => ⟨by rw [gn r fun z => na (.inl (.inr z))]; exact e, fun z => na (hA r z)⟩
        have rk2 := puts_ok rk .nil
        have le : ∀ r, Av D O own1 r → Av D (fun q => O q ∨ q = h.n) own1 r := fun r z => by
          rcases z with z | z
          · exact .inl (.inl z)
          · exact .inr z
        refine ⟨own1, fr2, ⟨Nat.le_trans (Nat.le_succ _) st1.n, fun r o e n1 n2 n3 => by rw [gn r (ne r o e)]; exact st1.keep r o (old r o e) n1 n2 n3, fun i r e => (st1.own i r e).imp_right fun z => Nat.le_trans (Nat.le_succ _) z⟩, fun hc => ?_, .dic nA gs (rk2.mv (m _ le)), fun _ _ => ⟨h.n, rfl, Nat.le_refl _, .inr ⟨_, _, rfl, gs, rk2.mv (m _ fun r z => ?_)⟩⟩⟩
        · have c := cm1 hc
          exact ⟨⟨Nat.le_trans (Nat.le_succ _) c.ext.1, fun r o e n1 n2 => by rw [gn r (ne r o e)]; exact c.ext.2 r o (old r o e) n1 n2⟩, c.own, c.len, c.dm⟩
        · rcases z with z | z
          · exact le r z
          · exact .inl (.inr z)
variable (hC : SC D call call0) (hK : ConstsOk P cs)
include hC hK
mutual
theorem sE : ∀ (e : E) {O : Nat → Prop} {env : Env} {h : Hq} {own : Nat → Option Nat} {env0 : Env0} {s : Drw}, Fr D h O own env0 env s → Ok D O env h own env0 (calmE e = true) (evE P call e env h) (ev cs call0 e env0 s) (RelV D h.n e)
  | .non, O, env, h, own, env0, s, fr => Ok.ret fr (noF rfl .non)
  | .bl b, O, env, h, own, env0, s, fr => Ok.ret fr (noF rfl (.bl b))
  | .int i, O, env, h, own, env0, s, fr => Ok.ret fr (noF rfl (.int i))
  | .str t, O, env, h, own, env0, s, fr => Ok.ret fr (noF rfl (.str t))
  | .var i, O, env, h, own, env0, s, fr => by
    show Ok D O env h own env0 _ (varF env[i]? h) (readV env0 i s) _
    unfold readV
    split
    · rename_i b v e
      obtain ⟨p, g1, fr1, rv⟩ := fr.read e
      rw [g1]
      exact ⟨_, fr1, (cm_read e).stp, fun _ => cm_read e, noF rfl rv⟩
    · trivial
  | .gc i, O, env, h, own, env0, s, fr => by
    show Ok D O env h own env0 _ (ofV h P.consts[i]?) (ofV0 cs[i]? env0 s) _
    cases e : cs[i]? with
    | none => trivial
    | some v =>
      obtain ⟨p, g1, g2⟩ := hK i v e
      rw [g1]
      exact Ok.ret fr (noF rfl (g2 _ _ _))
  | .bin op a b, O, env, h, own, env0, s, fr => by
    show Ok D O env h own env0 _ ((evE P call a env h).bind fun v h1 => (evE P call b env h1).bind fun w h2 => binS op h2 v w) (if calmE b = true then (borrow a env0 s (ev cs call0 a env0 s)).bind fun v env s => (borrow b env s (ev cs call0 b env s)).bind fun w env s => ofV0 (binV op v w) env s else .fail) _
    split
    · rename_i hb
      exact Ok.weak (Ok.bind (bor a fr (sE a fr)) fun v p h1 own1 env1 s1 fr1 st1 cm1 r1 => Ok.bind (bor b fr1 (sE b fr1)) fun w q h2 own2 env2 s2 fr2 st2 cm2 r2 => Ok.opt (C := True) (N := h.n) fr2 fun u e => bin_ok fr2.hA (Nat.le_trans st1.n st2.n) (r1.mv (cm2 hb).stp.mv (cm2 hb).ext).b r2.b e) (fun z => ⟨(and2 z).1, (and2 z).2, trivial⟩) (fun h' A v p z => ⟨z.1, fun _ => z.2⟩)
    · trivial
  | .neg a, O, env, h, own, env0, s, fr => Ok.weak (Ok.bind (sE a fr) fun v p h1 own1 env1 s1 fr1 st1 cm1 r1 => Ok.opt (C := True) (N := h.n) fr1 fun u e => neg0_ok r1.1 e) (fun z => ⟨z, trivial⟩) (fun h' A v p z => noF rfl z.1)
  | .nt a, O, env, h, own, env0, s, fr => Ok.weak (Ok.bind (sE a fr) fun v p h1 own1 env1 s1 fr1 st1 cm1 r1 => Ok.opt (C := True) (N := h.n) fr1 fun u e => not0_ok r1.1 e) (fun z => ⟨z, trivial⟩) (fun h' A v p z => noF rfl z.1)
  | .and es, O, env, h, own, env0, s, fr => Ok.weak (sAnd es fr) (fun z => z) (fun h' A v p z => noF rfl z)
  | .or es, O, env, h, own, env0, s, fr => Ok.weak (sOr es fr) (fun z => z) (fun h' A v p z => noF rfl z)
  | .cmp op a b, O, env, h, own, env0, s, fr => by
    show Ok D O env h own env0 _ ((evE P call a env h).bind fun v h1 => (evE P call b env h1).bind fun w h2 => cmpS op h2 v w) (if calmE b = true then (borrow a env0 s (ev cs call0 a env0 s)).bind fun v env s => (borrow b env s (ev cs call0 b env s)).bind fun w env s => ofV0 (cmpV op v w) env s else .fail) _
    split
    · rename_i hb
      exact Ok.weak (Ok.bind (bor a fr (sE a fr)) fun v p h1 own1 env1 s1 fr1 st1 cm1 r1 => Ok.bind (bor b fr1 (sE b fr1)) fun w q h2 own2 env2 s2 fr2 st2 cm2 r2 => Ok.opt (C := True) (N := h.n) fr2 fun u e => cmp_ok (r1.mv (cm2 hb).stp.mv (cm2 hb).ext).b r2.b e) (fun z => ⟨(and2 z).1, (and2 z).2, trivial⟩) (fun h' A v p z => noF rfl z.1)
    · trivial
  | .isN neg a, O, env, h, own, env0, s, fr => Ok.weak (Ok.bind (sE a fr) fun v p h1 own1 env1 s1 fr1 st1 cm1 r1 => (Ok.ret fr1 (isN0_ok r1.1) : Ok D O env h1 own1 env1 True _ _ fun h' A v p => Rv D.1 h' A v p)) (fun z => ⟨z, trivial⟩) (fun h' A v p z => noF rfl z)
  | .isB neg a b, O, env, h, own, env0, s, fr => Ok.weak (Ok.bind (sE a fr) fun v p h1 own1 env1 s1 fr1 st1 cm1 r1 => Ok.opt (C := True) (N := h.n) fr1 fun u e => isB0_ok r1.1 e) (fun z => ⟨z, trivial⟩) (fun h' A v p z => noF rfl z.1)
  | .chain p q a b c, O, env, h, own, env0, s, fr => by
    refine Ok.weak (Ok.bind (sE a fr) fun v v' h1 own1 env1 s1 fr1 st1 cm1 r1 => Ok.bind (sE b fr1) fun w w' h2 own2 env2 s2 fr2 st2 cm2 r2 => Ok.bind (C2 := calmE c = true ∧ True) (Ok.opt (C := True) (N := h.n) fr2 fun u e => cmp_ok (.inl (r1.1.mv st2.mv)) (.inl r2.1) e) fun x x' h3 own3 env3 s3 fr3 st3 cm3 r3 => ?_) (fun z => ⟨(and2 (and2 z).1).1, (and2 (and2 z).1).2, trivial, (and2 z).2, trivial⟩) (fun h' A v p z => noF rfl z)
    refine ifV_ok (Rel := fun h' A v p => Rv D.1 h' A v p) fr3 r3.1 ?_ (Ok.ret fr3 (.bl false))
    exact Ok.weak (Ok.bind (sE c fr3) fun u u' h4 own4 env4 s4 fr4 st4 cm4 r4 => Ok.opt (C := True) (N := h.n) fr4 fun y e => cmp_ok (.inl ((r2.1.mv st3.mv).mv st4.mv)) (.inl r4.1) e) (fun z => z) (fun h' A v p z => z.1)
  | .ite c a b, O, env, h, own, env0, s, fr => by
    refine Ok.weak (Ok.bind (C2 := calmE a = true ∧ calmE b = true) (sE c fr) fun v v' h1 own1 env1 s1 fr1 st1 cm1 r1 => ?_) (fun z => ⟨(and2 (and2 z).1).1, (and2 (and2 z).1).2, (and2 z).2⟩) (fun h' A v p z => noF rfl z)
    exact ifV_ok (Rel := fun h' A v p => Rv D.1 h' A v p) fr1 r1.1 ((sE a fr1).weak (fun z => z.1) fun _ _ _ _ z => z.1) ((sE b fr1).weak (fun z => z.2) fun _ _ _ _ z => z.1)
  | .tup es, O, env, h, own, env0, s, fr => by
    refine Ok.weak (Ok.bind (C2 := True) (sEs es fr) fun vs ps h1 own1 env1 s1 fr1 st1 cm1 r1 => ?_) (fun z => ⟨z, trivial⟩) (fun h' A v p z => noF rfl z)
    split
    · rename_i hz
      have hz : le' ps.length SL = true := by rw [← r1.length]; exact hz
      show Ok D O env h1 own1 env1 True (okIf (le' ps.length SL) (.ret (.tup ps) h1)) _ _
      unfold okIf
      rw [if_pos hz]
      exact Ok.ret (Rel := fun h' A v p => Rv D.1 h' A v p) fr1 (.tup r1)
    · trivial
  | .lst es, O, env, h, own, env0, s, fr => by
    refine Ok.weak (Ok.bind (C2 := True) (Rel2 := fun h' A v p => Rv D.1 h' A v p ∧ FrV D.1 h.n h' A v p) (sEs es fr) fun vs ps h1 own1 env1 s1 fr1 st1 cm1 r1 => ?_) (fun z => ⟨z, trivial⟩) (fun h' A v p z => ⟨z.1, fun _ => z.2⟩)
    split
    · rename_i hz
      have hz : le' ps.length SL = true := by rw [← r1.length]; exact hz
      exact Ok.op fr1 (OpF.okIf hz (OpF.new fr1.hA st1.n r1))
    · trivial
  | .dct n ks vs, O, env, h, own, env0, s, fr => by
    cases n
    · cases ks with
      | nil =>
        have nA : ¬ Av D O own h.n := fun z => Nat.lt_irrefl _ (fr.hA _ z)
        have x : OpF D.1 h.n h (Av D O own) (.ret (.ref h.n) (h.push (.dk []))) (.dic []) := ⟨ExtS.push, .dic nA get_new .nil, fun _ => ⟨h.n, rfl, Nat.le_refl _, .inr ⟨[], [], rfl, get_new, .nil⟩⟩⟩
        exact Ok.weak (Ok.op (C := True) fr x) (fun _ => trivial) (fun h' A v p z => ⟨z.1, fun _ => z.2⟩)
      | cons k ks => exact disp_ok fr fun fr0 => sEs (k :: ks) fr0
    · trivial
  | .idx a i, O, env, h, own, env0, s, fr => by
    show Ok D O env h own env0 _ ((evE P call a env h).bind fun v h1 => (evE P call i env h1).bind fun w h2 => idxS h2 v w) (if calmE i = true then (borrow a env0 s (ev cs call0 a env0 s)).bind fun v env s => (ev cs call0 i env s).bind fun w env s => ofV0 (idxV v w) env s else .fail) _
    split
    · rename_i hb
      exact Ok.weak (Ok.bind (bor a fr (sE a fr)) fun v p h1 own1 env1 s1 fr1 st1 cm1 r1 => Ok.bind (sE i fr1) fun w q h2 own2 env2 s2 fr2 st2 cm2 r2 => Ok.optV (C := True) fr2 fun u e => idxV_ok (r1.mv (cm2 hb).stp.mv (cm2 hb).ext).b r2.1 e) (fun z => ⟨(and2 z).1, (and2 z).2, trivial⟩) (fun h' A v p z => noF rfl z)
    · trivial
  | .slice a lo hi, O, env, h, own, env0, s, fr => by
    show Ok D O env h own env0 _ ((evE P call a env h).bind fun v h1 => (evE P call lo env h1).bind fun l h2 => optF (partE lo l) fun l' => (evE P call hi env h2).bind fun u h3 => optF (partE hi u) fun u' => sliceS h3 v l' u')
      (if (calmE lo && calmE hi) = true then (borrow a env0 s (ev cs call0 a env0 s)).bind fun v env s => (ev cs call0 lo env s).bind fun l env s => opt0 (part0 lo l) fun l' => (ev cs call0 hi env s).bind fun u env s => opt0 (part0 hi u) fun u' => ofV0 (sliceV v l' u') env s else .fail) _
    split
    · rename_i hb
      refine Ok.weak (Ok.bind (Rel2 := fun h' A v p => Rv D.1 h' A v p ∧ FrV D.1 h.n h' A v p) (C2 := calmE lo = true ∧ calmE hi = true ∧ True) (bor a fr (sE a fr)) fun v p h1 own1 env1 s1 fr1 st1 cm1 r1 => Ok.bind (sE lo fr1) fun l l' h2 own2 env2 s2 fr2 st2 cm2 r2 => ?_) (fun z => ⟨(and2 (and2 z).1).1, (and2 (and2 z).1).2, (and2 z).2, trivial⟩) (fun h' A v p z => ⟨z.1, fun _ => z.2⟩)
      cases e1 : part0 lo l with
      | none => trivial
      | some x =>
        rw [part_ok r2.1 e1]
        refine Ok.bind (sE hi fr2) fun u u' h3 own3 env3 s3 fr3 st3 cm3 r3 => ?_
        cases e2 : part0 hi u with
        | none => trivial
        | some y =>
          rw [part_ok r3.1 e2]
          have c2 := cm2 (and2 hb).1
          have c3 := cm3 (and2 hb).2
          exact Ok.opt (C := True) (N := h.n) fr3 fun u e => sliceV_ok fr3.hA (Nat.le_trans st1.n (Nat.le_trans st2.n st3.n)) ((r1.mv c2.stp.mv c2.ext).mv c3.stp.mv c3.ext).b e
    · trivial
  | .rev a, O, env, h, own, env0, s, fr => Ok.weak (Ok.bind (bor a fr (sE a fr)) fun v p h1 own1 env1 s1 fr1 st1 cm1 r1 => Ok.opt (C := True) (N := h.n) fr1 fun u e => revV_ok fr1.hA st1.n r1.b e) (fun z => ⟨z, trivial⟩) (fun h' A v p z => ⟨z.1, fun _ => z.2⟩)
  | .attr _ _, O, env, h, own, env0, s, fr => trivial
  | .call f args, O, env, h, own, env0, s, fr => by
    refine Ok.weak (Ok.bind (C2 := True) (sEs args fr) fun vs ps h1 own1 env1 s1 fr1 st1 cm1 r1 => ?_) (fun z => ⟨z, trivial⟩) (fun h' A v p z => noF rfl z)
    have x := hC f vs ps h1 s1 (Av D O own1) (.inr (.inr (.inl rfl))) (.inr (.inr (.inr rfl))) fr1.hA r1 fr1.dr
    cases e : call0 f vs s1 with
    | fail => trivial
    | ret v s2 =>
      rw [e] at x
      exact Res.wp_mono x (fun p h' ⟨a, b, c⟩ => ⟨own1, fr1.extD a b, a.stp fun _ _ e => e, fun _ => ⟨a, fun _ _ e => e, rfl, fun _ => .inl rfl⟩, c⟩) fun _ _ z => z
    | exc c s2 =>
      rw [e] at x
      exact Res.wp_mono x (fun _ _ z => z) fun c' h' ⟨a, b, d⟩ => ⟨a, b.1, fun r o g _ n1 n2 => b.2 r o g n1 n2, d⟩
  | .new _ _ _, O, env, h, own, env0, s, fr => trivial
  | .meth _ _ _ _ _, O, env, h, own, env0, s, fr => trivial
  | .bi b args, O, env, h, own, env0, s, fr => Ok.weak (Ok.bind (sBs args fr) fun vs ps h1 own1 env1 s1 fr1 st1 cm1 r1 => Ok.opt (C := True) (N := h.n) fr1 fun u e => bi_ok fr1.hA st1.n r1 e) (fun z => ⟨z, trivial⟩) (fun h' A v p z => ⟨z.1, fun _ => z.2⟩)
  | .mt m o args, O, env, h, own, env0, s, fr => by
    have gen : ∀ (m : Mt), (∀ v vs u, mtV m v vs = some u → True) → calmE (.mt m o args) = (calmE o && calmEs args) → Ok D O env h own env0 (calmE (.mt m o args) = true) ((evE P call o env h).bind fun v h1 => mtF m h1 v ((evEs P call args env h1).bind fun vs h2 => mtS m h2 v vs)) ((ev cs call0 o env0 s).bind fun v env s => if tyM0 m v = true then (evs cs call0 args env s).bind fun vs env s => ofV0 (mtV m v vs) env s else .fail) (RelV D h.n (.mt m o args)) := by
      intro m _ hc
      refine Ok.weak (Ok.bind (C2 := calmEs args = true ∧ True) (sE o fr) fun v p h1 own1 env1 s1 fr1 st1 cm1 r1 => ?_) (fun z => by rw [hc] at z; exact ⟨(and2 z).1, (and2 z).2, trivial⟩) (fun h' A v p z => noF rfl z)
      split
      · rename_i ht
        have ht2 : tyM m h1 p = true := by
          have r := r1.1
          cases m <;> cases v <;> first | (cases ht; done) | skip
          · cases r with | lst a g l => show (getL h1 _).isSome = true; rw [getL_lst g]; rfl
          · cases r; rfl
          · cases r; rfl
          · cases r; rfl
          · cases r with | lst a g l => show (getL h1 _).isSome = true; rw [getL_lst g]; rfl
          · cases r with | dic a g l => show (match h1.get _ with | some (.dk _) => true | _ => false) = true; rw [g]
        unfold mtF
        rw [if_pos ht2]
        exact Ok.bind (sEs args fr1) fun vs ps h2 own2 env2 s2 fr2 st2 cm2 r2 => Ok.optV (C := True) fr2 fun u e => mt_ok fr2.hA (Nat.le_refl h2.n) (r1.1.mv st2.mv) r2 e
      · trivial
    cases m
    · -- append
      show Ok D O env h own env0 _ ((evE P call o env h).bind fun v h1 => mtF .append h1 v ((evEs P call args env h1).bind fun vs h2 => mtS .append h2 v vs)) (match varOf o with
        | some i => if ownsL env0 i = true then (evs cs call0 args env0 s).bind fun vs env s => match vs with
          | [v] => app0 i v env s
          | _ => .fail
          else .fail
        | none => .fail) _
      cases hv : varOf o with
      | none => trivial
      | some i =>
        have ho : o = .var i := by cases o <;> first | (cases hv; rfl) | cases hv
        subst ho
        show Ok D O env h own env0 _ ((varF env[i]? h).bind fun v h1 => mtF .append h1 v ((evEs P call args env h1).bind fun vs h2 => mtS .append h2 v vs)) (if ownsL env0 i = true then (evs cs call0 args env0 s).bind fun vs env s => match vs with
          | [v] => app0 i v env s
          | _ => .fail
          else .fail) _
        split
        · rename_i hw
          unfold ownsL at hw
          split at hw
          · rename_i xs e
            obtain ⟨r, g1, g2, g3⟩ := fr.ow i _ e
            rw [g2]
            show Ok D O env h own env0 _ (mtF .append h (.ref r) ((evEs P call args env h).bind fun vs h2 => mtS .append h2 (.ref r) vs)) _ _
            have ht : tyM .append h (.ref r) = true := by
              rcases g3 with ⟨xs', ys, _, g, _⟩ | ⟨_, _, q, _⟩
              · show (getL h r).isSome = true; rw [getL_lst g]; rfl
              · cases q
            unfold mtF
            rw [if_pos ht]
            refine Ok.weak (Ok.bind (C2 := False) (Rel2 := fun h' A v p => Rv D.1 h' A v p) (sEs args fr) fun vs ps h1 own1 env1 s1 fr1 st1 cm1 r1 => ?_) (fun z => by cases z) (fun h' A v p z => noF rfl z)
            split
            · rename_i v
              cases r1 with
              | cons a b =>
                cases b
                rename_i p
                unfold app0
                split
                · rename_i ys e2
                  obtain ⟨r', k1, k2, k3⟩ := fr1.ow i _ e2
                  have er : r' = r := by rw [k2] at g2; cases g2; rfl
                  subst er
                  rcases k3 with ⟨zs, qs, q1, q2, q3⟩ | ⟨_, _, q1, _⟩
                  · cases q1
                    split
                    · rename_i hz
                      unfold mtS
                      simp only [q2]
                      unfold okIf
                      rw [if_pos (by rw [← q3.length]; exact hz)]
                      have hr := (fr1.rg i r' k1).1
                      have st0 : Stp D h1 own1 (h1.set r' (.lst (qs ++ [p]))) own1 := wr_stp fr1 k1
                      have wr := fr1.write (w := .lst (ys ++ [v])) k1 e2 (o := .lst (qs ++ [p])) (.inl ⟨_, _, rfl, by rw [Hq.get_set h1 r' r' _ hr, if_pos rfl], (q3.mv st0.mv).append (.cons (a.mv st0.mv) .nil)⟩)
                      exact ⟨own1, wr.1, wr.2, fun z => z.elim, .non⟩
                    · trivial
                  · cases q1
                · trivial
            · trivial
          · cases hw
        · trivial
    · -- pop
      show Ok D O env h own env0 _ ((evE P call o env h).bind fun v h1 => mtF .pop h1 v ((evEs P call args env h1).bind fun vs h2 => mtS .pop h2 v vs)) (match varOf o with
        | some i => match args with
          | [] => pop0 i env0 s
          | _ => .fail
        | none => .fail) _
      cases hv : varOf o with
      | none => trivial
      | some i =>
        have ho : o = .var i := by cases o <;> first | (cases hv; rfl) | cases hv
        subst ho
        cases args with
        | cons _ _ => trivial
        | nil =>
          show Ok D O env h own env0 _ ((varF env[i]? h).bind fun v h1 => mtF .pop h1 v (mtS .pop h1 v [])) (pop0 i env0 s) _
          unfold pop0
          split
          · rename_i xs e
            obtain ⟨r, g1, g2, g3⟩ := fr.ow i _ e
            rw [g2]
            rcases g3 with ⟨xs', ys, q1, q2, q3⟩ | ⟨_, _, q, _⟩
            · cases q1
              split
              · rename_i v ev
                obtain ⟨p, ep, rp⟩ := q3.getLast ev
                show Ok D O env h own env0 _ (mtF .pop h (.ref r) (mtS .pop h (.ref r) [])) _ _
                have ht : tyM .pop h (.ref r) = true := by
                  show (getL h r).isSome = true
                  rw [getL_lst q2]; rfl
                unfold mtF
                rw [if_pos ht]
                unfold mtS
                simp only [q2, ep]
                have hr := (fr.rg i r g1).1
                have st0 : Stp D h own (h.set r (.lst ys.dropLast)) own := wr_stp fr g1
                have wr := fr.write (w := .lst xs.dropLast) g1 e (o := .lst ys.dropLast) (.inl ⟨_, _, rfl, by rw [Hq.get_set h r r _ hr, if_pos rfl], (q3.mv st0.mv).dropLast⟩)
                exact ⟨own, wr.1, wr.2, (fun z => by cases z), noF rfl (rp.mv st0.mv)⟩
              · trivial
            · cases q
          · trivial
    all_goals exact gen _ (fun _ _ _ _ => trivial) rfl
  | .isinst a t, O, env, h, own, env0, s, fr => Ok.weak (Ok.bind (bor a fr (sE a fr)) fun v p h1 own1 env1 s1 fr1 st1 cm1 r1 => Ok.opt (C := True) (N := h.n) fr1 fun u e => isin_ok r1.b e) (fun z => ⟨z, trivial⟩) (fun h' A v p z => noF rfl z.1)
  | .comp elt tg it ifs ow, O, env, h, own, env0, s, fr => by
    show Ok D O env h own env0 _ ((evSrc P call it env h).bind fun src h1 => lcLoop src tg ow (wipeE env ow) h1.n (fun env h => evTst P call ifs env h) (fun env h => evE P call elt env h) (src.size h1) (src.size h1) (h1.push (.lst [])))
      (if (calmE elt && calmEs ifs) = true then (evI cs call0 it env0 s).bind fun xs env s => lcR (shareV env (varsE elt ++ varsEs ifs)) (lc0 tg (wipe0 (hide (shareV env (varsE elt ++ varsEs ifs))) ow) (fun env s => evT cs call0 ifs env s) (fun env s => ev cs call0 elt env s) [] xs s) else .fail) _
    split
    · rename_i hcalm
      refine Ok.weak (Ok.bind (C2 := True) (Rel2 := fun h' A v p => Rv D.1 h' A v p ∧ FrV D.1 h.n h' A v p) (sI it fr) fun xs src h1 own1 env1 s1 fr1 st1 cm1 sr => ?_) (fun z => ⟨(and2 (and2 z).1).2, trivial⟩) (fun h' A v p z => ⟨z.1, fun _ => z.2⟩)
      obtain ⟨own2, fr2, c2⟩ := fr1.share (varsE elt ++ varsEs ifs)
      have frb := fr2.block ow (.lst [])
      have nA : ¬ Av D O own2 h1.n := fun z => Nat.lt_irrefl _ (fr2.hA _ z)
      have mb : Mv h1 (Av D O own1) (h1.push (.lst [])) (Av D (blkO O own2 h1.n) noOwn) := fun r u na e => ⟨get_old e, fun z => by
        rcases z with (z | ⟨i, z⟩ | z) | ⟨i, z⟩ | z
        · exact na (.inl z)
        · exact na (.inr (.inl ⟨i, c2.own i r z⟩))
        · rw [z] at e; exact absurd (Hq.get_lt e) (Nat.lt_irrefl _)
        · cases z
        · exact na (.inr (.inr z))⟩
      cases e : lc0 tg (wipe0 (hide (shareV env1 (varsE elt ++ varsEs ifs))) ow) (fun env s => evT cs call0 ifs env s) (fun env s => ev cs call0 elt env s) [] xs s1 with
      | none => trivial
      | some q =>
        obtain ⟨res, s'⟩ := q
        have lc := lc_ok (own1 := ow) (tst := fun env h => evTst P call ifs env h) (elt := fun env h => evE P call elt env h) (fun h env0 env s fr => (sT ifs fr).weak (fun _ => (and2 hcalm).2) fun _ _ _ _ z => z) (fun h env0 env s fr => (sE elt fr).weak (fun _ => (and2 hcalm).1) fun _ _ _ _ z => z.1)
          (show blkO O own2 h1.n h1.n from .inr (.inr rfl)) (fun z => nA (.inr (.inr (.inl z)))) (fun z => nA (.inr (.inr (.inr z)))) xs 0 [] s1 (h1.push (.lst [])) [] (List.drop_zero ..) (Nat.zero_add _) frb (sr.mv mb) get_new .nil res s' e
        rw [sr.size]
        refine Res.wp_mono lc (fun p h' z => ?_) fun _ _ z => z
        obtain ⟨rfl, n1, k1, dr1, ps, g, l⟩ := z
        have x : ExtD D h1 h' := ⟨Nat.le_trans (Nat.le_succ _) n1, fun r o e a b => k1 r o (get_old e) (Nat.ne_of_lt (Hq.get_lt e)) a b⟩
        have ls : ∀ q, (Av D O own2 q ∨ q = h1.n) → Av D (blkO O own2 h1.n) noOwn q := fun q z => by
          rcases z with (z | z | z) | z
          · exact .inl (.inl z)
          · exact .inl (.inr (.inl z))
          · exact .inr (.inr z)
          · exact .inl (.inr (.inr z))
        exact ⟨own2, fr2.extD x dr1, x.stp c2.own, fun _ => ⟨x, c2.own, c2.len, c2.dm⟩, .lst nA g (l.mv (Mv.less fun q z => ls q (.inl z))), fun _ => ⟨h1.n, rfl, st1.n, .inl ⟨_, _, rfl, g, l.mv (Mv.less ls)⟩⟩⟩
    · trivial
  | .range _, O, env, h, own, env0, s, fr => trivial
  | .enum _, O, env, h, own, env0, s, fr => trivial
  | .zip _ _, O, env, h, own, env0, s, fr => trivial
  | .src _, O, env, h, own, env0, s, fr => trivial
theorem sEs : ∀ (es : List E) {O : Nat → Prop} {env : Env} {h : Hq} {own : Nat → Option Nat} {env0 : Env0} {s : Drw}, Fr D h O own env0 env s → Ok D O env h own env0 (calmEs es = true) (evEs P call es env h) (evs cs call0 es env0 s) (fun h' A v p => RvL D.1 h' A v p)
  | [], O, env, h, own, env0, s, fr => Ok.ret fr .nil
  | e :: es, O, env, h, own, env0, s, fr => Ok.weak (Ok.bind (Rel2 := fun h' A v p => RvL D.1 h' A v p) (sE e fr) fun v p h1 own1 env1 s1 fr1 st1 cm1 r1 => Ok.bind (sEs es fr1) fun vs ps h2 own2 env2 s2 fr2 st2 cm2 r2 => (Ok.ret fr2 (.cons (r1.1.mv st2.mv) r2) : Ok D O env h2 own2 env2 True _ _ _)) (fun z => ⟨(and2 z).1, (and2 z).2, trivial⟩) (fun h' A v p z => z)
theorem sBs : ∀ (es : List E) {O : Nat → Prop} {env : Env} {h : Hq} {own : Nat → Option Nat} {env0 : Env0} {s : Drw}, Fr D h O own env0 env s → Ok D O env h own env0 (calmEs es = true) (evEs P call es env h) (evBs cs call0 es env0 s) (fun h' A v p => RvA D.1 h' A v p)
  | [], O, env, h, own, env0, s, fr => Ok.ret fr (.all .nil)
  | [e], O, env, h, own, env0, s, fr => Ok.weak (Ok.bind (Rel2 := fun h' A v p => RvA D.1 h' A v p) (bor e fr (sE e fr)) fun v p h1 own1 env1 s1 fr1 st1 cm1 r1 => (Ok.ret fr1 (.one r1.b) : Ok D O env h1 own1 env1 True (.ret [p] h1) _ _)) (fun z => ⟨(and2 z).1, trivial⟩) (fun h' A v p z => z)
  | e :: f :: es, O, env, h, own, env0, s, fr => Ok.weak (Ok.bind (Rel2 := fun h' A v p => RvL D.1 h' A v p) (sE e fr) fun v p h1 own1 env1 s1 fr1 st1 cm1 r1 => Ok.bind (sEs (f :: es) fr1) fun vs ps h2 own2 env2 s2 fr2 st2 cm2 r2 => (Ok.ret fr2 (.cons (r1.1.mv st2.mv) r2) : Ok D O env h2 own2 env2 True _ _ _)) (fun z => ⟨(and2 z).1, (and2 z).2, trivial⟩) (fun h' A v p z => .all z)
theorem sAnd : ∀ (es : List E) {O : Nat → Prop} {env : Env} {h : Hq} {own : Nat → Option Nat} {env0 : Env0} {s : Drw}, Fr D h O own env0 env s → Ok D O env h own env0 (calmEs es = true) (evAnd P call es env h) (evAnd0 cs call0 es env0 s) (fun h' A v p => Rv D.1 h' A v p)
  | [], O, env, h, own, env0, s, fr => trivial
  | [e], O, env, h, own, env0, s, fr => (sE e fr).weak (fun z => (and2 z).1) fun _ _ _ _ z => z.1
  | e :: f :: es, O, env, h, own, env0, s, fr => Ok.weak (Ok.bind (Rel2 := fun h' A v p => Rv D.1 h' A v p) (sE e fr) fun v p h1 own1 env1 s1 fr1 st1 cm1 r1 => ifV_ok fr1 r1.1 (sAnd (f :: es) fr1) (Ok.ret fr1 (.bl false))) (fun z => ⟨(and2 z).1, (and2 z).2⟩) (fun h' A v p z => z)
theorem sOr : ∀ (es : List E) {O : Nat → Prop} {env : Env} {h : Hq} {own : Nat → Option Nat} {env0 : Env0} {s : Drw}, Fr D h O own env0 env s → Ok D O env h own env0 (calmEs es = true) (evOr P call es env h) (evOr0 cs call0 es env0 s) (fun h' A v p => Rv D.1 h' A v p)
  | [], O, env, h, own, env0, s, fr => trivial
  | [e], O, env, h, own, env0, s, fr => (sE e fr).weak (fun z => (and2 z).1) fun _ _ _ _ z => z.1
  | e :: f :: es, O, env, h, own, env0, s, fr => Ok.weak (Ok.bind (Rel2 := fun h' A v p => Rv D.1 h' A v p) (sE e fr) fun v p h1 own1 env1 s1 fr1 st1 cm1 r1 => ifV_ok fr1 r1.1 (Ok.ret fr1 (.bl true)) (sOr (f :: es) fr1)) (fun z => ⟨(and2 z).1, (and2 z).2⟩) (fun h' A v p z => z)
theorem sT : ∀ (es : List E) {O : Nat → Prop} {env : Env} {h : Hq} {own : Nat → Option Nat} {env0 : Env0} {s : Drw}, Fr D h O own env0 env s → Ok D O env h own env0 (calmEs es = true) (evTst P call es env h) (evT cs call0 es env0 s) (fun _ _ b b' => b = b')
  | [], O, env, h, own, env0, s, fr => Ok.ret fr rfl
  | [e], O, env, h, own, env0, s, fr => Ok.weak (Ok.bind (Rel2 := fun _ _ b b' => b = b') (sE e fr) fun v p h1 own1 env1 s1 fr1 st1 cm1 r1 => tru_ok (C := True) fr1 r1.1) (fun z => ⟨(and2 z).1, trivial⟩) (fun h' A v p z => z)
  | _ :: _ :: _, O, env, h, own, env0, s, fr => trivial
theorem sI : ∀ (e : E) {O : Nat → Prop} {env : Env} {h : Hq} {own : Nat → Option Nat} {env0 : Env0} {s : Drw}, Fr D h O own env0 env s → Ok D O env h own env0 (calmE e = true) (evSrc P call e env h) (evI cs call0 e env0 s) (fun h' A xs src => SrcR D.1 h' A xs src)
  | .range es, O, env, h, own, env0, s, fr => by
    refine Ok.weak (Ok.bind (C2 := True) (Rel2 := fun h' A xs src => SrcR D.1 h' A xs src) (sEs es fr) fun vs ps h1 own1 env1 s1 fr1 st1 cm1 r1 => ?_) (fun z => ⟨z, trivial⟩) (fun h' A v p z => z)
    cases e : rangeV vs with
    | none => trivial
    | some xs =>
      obtain ⟨ys, e2, l⟩ := range_ok r1 e
      rw [e2]
      exact Ok.ret fr1 (.itm l)
  | .enum a, O, env, h, own, env0, s, fr => by
    refine Ok.weak (Ok.bind (C2 := True) (Rel2 := fun h' A xs src => SrcR D.1 h' A xs src) (sE a fr) fun v p h1 own1 env1 s1 fr1 st1 cm1 r1 => ?_) (fun z => ⟨z, trivial⟩) (fun h' A v p z => z)
    cases e : itmV v with
    | none => trivial
    | some xs =>
      obtain ⟨src, e2, l⟩ := itm_src r1.1 e
      rw [e2]
      exact Ok.ret (Rel := fun h' A xs src => SrcR D.1 h' A xs src) fr1 (.enum l)
  | .zip a b, O, env, h, own, env0, s, fr => by
    refine Ok.weak (Ok.bind (C2 := calmE b = true ∧ True) (Rel2 := fun h' A xs src => SrcR D.1 h' A xs src) (sE a fr) fun v p h1 own1 env1 s1 fr1 st1 cm1 r1 => Ok.bind (sE b fr1) fun w q h2 own2 env2 s2 fr2 st2 cm2 r2 => ?_) (fun z => ⟨(and2 z).1, (and2 z).2, trivial⟩) (fun h' A v p z => z)
    cases e : itmV v with
    | none => trivial
    | some xs =>
      cases e2 : itmV w with
      | none => trivial
      | some ys =>
        obtain ⟨src, e3, l⟩ := itm_src (r1.1.mv st2.mv) e
        obtain ⟨src2, e4, l2⟩ := itm_src r2.1 e2
        rw [e3, e4]
        exact Ok.ret (Rel := fun h' A xs src => SrcR D.1 h' A xs src) fr2 (.zip l l2)
  | .src a, O, env, h, own, env0, s, fr => by
    refine Ok.weak (Ok.bind (C2 := True) (Rel2 := fun h' A xs src => SrcR D.1 h' A xs src) (sE a fr) fun v p h1 own1 env1 s1 fr1 st1 cm1 r1 => ?_) (fun z => ⟨z, trivial⟩) (fun h' A v p z => z)
    cases e : itmV v with
    | none => trivial
    | some xs =>
      obtain ⟨src, e2, l⟩ := itm_src r1.1 e
      rw [e2]
      exact Ok.ret fr1 l
  | .non, O, env, h, own, env0, s, fr => trivial
  | .bl _, O, env, h, own, env0, s, fr => trivial
  | .int _, O, env, h, own, env0, s, fr => trivial
  | .str _, O, env, h, own, env0, s, fr => trivial
  | .var _, O, env, h, own, env0, s, fr => trivial
  | .gc _, O, env, h, own, env0, s, fr => trivial
  | .bin _ _ _, O, env, h, own, env0, s, fr => trivial
  | .neg _, O, env, h, own, env0, s, fr => trivial
  | .nt _, O, env, h, own, env0, s, fr => trivial
  | .and _, O, env, h, own, env0, s, fr => trivial
  | .or _, O, env, h, own, env0, s, fr => trivial
  | .cmp _ _ _, O, env, h, own, env0, s, fr => trivial
  | .isN _ _, O, env, h, own, env0, s, fr => trivial
  | .isB _ _ _, O, env, h, own, env0, s, fr => trivial
  | .chain _ _ _ _ _, O, env, h, own, env0, s, fr => trivial
  | .ite _ _ _, O, env, h, own, env0, s, fr => trivial
  | .tup _, O, env, h, own, env0, s, fr => trivial
  | .lst _, O, env, h, own, env0, s, fr => trivial
  | .dct _ _ _, O, env, h, own, env0, s, fr => trivial
  | .idx _ _, O, env, h, own, env0, s, fr => trivial
  | .slice _ _ _, O, env, h, own, env0, s, fr => trivial
  | .rev _, O, env, h, own, env0, s, fr => trivial
  | .attr _ _, O, env, h, own, env0, s, fr => trivial
  | .call _ _, O, env, h, own, env0, s, fr => trivial
  | .new _ _ _, O, env, h, own, env0, s, fr => trivial
  | .meth _ _ _ _ _, O, env, h, own, env0, s, fr => trivial
  | .bi _ _, O, env, h, own, env0, s, fr => trivial
  | .mt _ _ _, O, env, h, own, env0, s, fr => trivial
  | .isinst _ _, O, env, h, own, env0, s, fr => trivial
  | .comp _ _ _ _ _, O, env, h, own, env0, s, fr => trivial
end
end
end MP.Z

namespace MP.Z
/-! ### statements -/
inductive RelF (d : Nat) (h : Hq) (A : Nat → Prop) : Fl0 → Flow → Prop
  | next : RelF d h A .next .next
  | cont : RelF d h A .cont .cont
  | ret {v : VV} {p : PV} : Rv d h A v p → RelF d h A (.ret v) (.ret p)
section
variable (D : Nat × Nat) (O : Nat → Prop)
def OkS (h : Hq) (own : Nat → Option Nat) (t : Rs) (r : RS) : Prop := match r with
  | .ret f env0' s' => t.wp (fun p h' => ∃ own', Fr D h' O own' env0' p.2 s' ∧ Stp D h own h' own' ∧ RelF D.1 h' (Av D O own') f p.1) fun _ _ => False
  | .exc c s' => t.wp (fun _ _ => False) fun c' h' => c' = c ∧ h.n ≤ h'.n ∧ (∀ r o, h.get r = some o → (∀ i, own i ≠ some r) → r ≠ D.1 → r ≠ D.2 → h'.get r = some o) ∧ Dr D h' s'
  | .fail => True
end
section
variable {D : Nat × Nat} {O : Nat → Prop} {env : Env} {h h' : Hq} {own own' : Nat → Option Nat} {env0 env0' : Env0} {s s' : Drw} {C : Prop}
theorem OkS.trans {t : Rs} {r : RS} (st : Stp D h own h' own') (x : OkS D O h' own' t r) : OkS D O h own t r := by
  cases r with
  | ret v e s => exact Res.wp_mono x (fun p h' ⟨o, a, b, d⟩ => ⟨o, a, st.trans b, d⟩) fun _ _ z => z
  | exc c s =>
    refine Res.wp_mono x (fun _ _ z => z) fun c' h2 ⟨e, n, k, dr⟩ => ⟨e, Nat.le_trans st.n n, fun r o g n1 n2 n3 => k r o (st.keep r o g n1 n2 n3) (fun i z => ?_) n2 n3, dr⟩
    rcases st.own i r z with z | z
    · exact n1 i z
    · exact absurd (Hq.get_lt g) (Nat.not_lt.mpr z)
  | fail => trivial
theorem OkS.now {f : Fl0} {f' : Flow} (fr : Fr D h O own env0 env s) (r : RelF D.1 h (Av D O own) f f') : OkS D O h own (.ret (f', env) h) (.ret f env0 s) := ⟨own, fr, Stp.refl, r⟩
theorem OkS.bindE {α β : Type} {t : Res β} {r : R0 α} {g : β → Hq → Rs} {f : α → Env0 → Drw → RS} {Rel : Hq → (Nat → Prop) → α → β → Prop} (x : Ok D O env h own env0 C t r Rel)
    (k : ∀ v p h' own' env0' s', Fr D h' O own' env0' env s' → Stp D h own h' own' → (C → Cm D h own env0 h' own' env0') → Rel h' (Av D O own') v p → OkS D O h' own' (g p h') (f v env0' s')) : OkS D O h own (t.bind g) (r.bind f) := by
  cases r with
  | fail => trivial
  | exc c s =>
    show (t.bind g).wp _ _
    rw [Res.wp_bind]
    exact Res.wp_mono x (fun _ _ z => z.elim) fun _ _ z => z
  | ret v e s =>
    have x : t.wp _ _ := x
    cases t with
    | fail => exact x.elim
    | exc c h1 => exact x.elim
    | ret p h1 =>
      obtain ⟨o, a, b, c, d⟩ := x
      exact OkS.trans b (k v p h1 o e s a b c d)
theorem OkS.bind {t : Rs} {r : RS} {g : Flow × Env → Hq → Rs} {f : Fl0 → Env0 → Drw → RS} (x : OkS D O h own t r)
    (k : ∀ v p h' own' env0' s', Fr D h' O own' env0' p.2 s' → Stp D h own h' own' → RelF D.1 h' (Av D O own') v p.1 → OkS D O h' own' (g p h') (f v env0' s')) : OkS D O h own (t.bind g) (r.bind f) := by
  cases r with
  | fail => trivial
  | exc c s =>
    show (t.bind g).wp _ _
    rw [Res.wp_bind]
    exact Res.wp_mono x (fun _ _ z => z.elim) fun _ _ z => z
  | ret v e s =>
    have x : t.wp _ _ := x
    cases t with
    | fail => exact x.elim
    | exc c h1 => exact x.elim
    | ret p h1 =>
      obtain ⟨o, a, b, d⟩ := x
      exact OkS.trans b (k v p h1 o e s a b d)
theorem Stp.less (st : Stp D h own h' own') {own2 : Nat → Option Nat} (l : ∀ i r, own2 i = some r → own' i = some r) : Stp D h own h' own2 := ⟨st.n, st.keep, fun i r e => st.own i r (l i r e)⟩
theorem own_lt {d : Nat} {A : Nat → Prop} {v : VV} {r : Nat} (o : OwnR d h A v r) : r < h.n := by
  rcases o with ⟨xs, ys, _, g, _⟩ | ⟨xs, ys, _, g, _⟩
  · exact Hq.get_lt g
  · exact Hq.get_lt g
theorem Fr.dlt (fr : Fr D h O own env0 env s) : D.1 < h.n ∧ D.2 < h.n := ⟨Hq.get_lt fr.dr.a, Hq.get_lt fr.dr.b⟩
/-- x = v -/
theorem asgF_ok {t : Tg} {e : E} {v : VV} {p : PV} {h1 : Hq} {own1 : Nat → Option Nat} {env1 : Env0} {s1 : Drw} (fr : Fr D h O own env0 env s) (fr1 : Fr D h1 O own1 env1 env s1) (st1 : Stp D h own h1 own1) (cm1 : calmE e = true → Cm D h own env0 h1 own1 env1) (r1 : RelV D h.n e h1 (Av D O own1) v p) :
    OkS D O h own (envF h1 (asgT t p env)) (asgF t (frC e) v env1 s1) := by
  cases t with
  | tup ts =>
    show OkS D O h own (envF h1 (asgT (.tup ts) p env)) (match asgV (.tup ts) v env1 with | some env => .ret .next env s1 | none => .fail)
    cases e1 : asgV (.tup ts) v env1 with
    | none => trivial
    | some env2 =>
      obtain ⟨env', own', g, fr2, l⟩ := asg_ok (.tup ts) fr1 r1.1 e1
      rw [g]
      exact ⟨own', fr2, st1.less l, .next⟩
  | name i =>
    show OkS D O h own (.ret (.next, env.set i (some p)) h1) (.ret .next (env1.set i (some (frC e && isLD v, v))) s1)
    cases hb : (frC e && isLD v) with
    | false => exact ⟨_, fr1.put i r1.1, st1.less fun j r z => (setO_none z).1, .next⟩
    | true =>
      obtain ⟨hf, hl⟩ := and2 hb
      obtain ⟨hf1, hf2⟩ := and2 hf
      obtain ⟨r, rfl, hr, o⟩ := r1.2 hf1 hl
      have cm := cm1 hf2
      have nO : ¬ O r := fun z => absurd (fr.ob r z) (Nat.not_lt.mpr hr)
      have n1 : r ≠ D.1 := fun z => absurd fr.dlt.1 (Nat.not_lt.mpr (by rw [← z]; exact hr))
      have n2 : r ≠ D.2 := fun z => absurd fr.dlt.2 (Nat.not_lt.mpr (by rw [← z]; exact hr))
      have hid := fr.hideNew fr1 cm hr (own_lt o)
      have tk := hid.take i (o.mv (Mv.less fun q z => by
        rcases z with (z | z) | z
        · exact .inl (.inl z)
        · exact .inr z
        · exact .inl (.inr z)) fun _ g => g) nO n1 n2
      refine ⟨_, tk, ⟨st1.n, st1.keep, fun j q z => ?_⟩, .next⟩
      unfold setO' at z
      split at z
      · cases z; exact .inr hr
      · exact st1.own j q z
/-! a, b = .. -/
inductive RelP (d : Nat) (h : Hq) (A : Nat → Prop) : List (Bool × VV) → List PV → List Nat → Prop
  | nil : RelP d h A [] [] []
  | sh {v : VV} {p : PV} {vs : List (Bool × VV)} {ps : List PV} {rs : List Nat} : Rv d h A v p → RelP d h A vs ps rs → RelP d h A ((false, v) :: vs) (p :: ps) rs
  | ow {v : VV} {r : Nat} {vs : List (Bool × VV)} {ps : List PV} {rs : List Nat} : OwnR d h A v r → RelP d h A vs ps rs → RelP d h A ((true, v) :: vs) (.ref r :: ps) (r :: rs)
theorem RelP.mvE {d : Nat} {A A' : Nat → Prop} {vs : List (Bool × VV)} {ps : List PV} {rs : List Nat} (r : RelP d h A vs ps rs) (m : Mv h A h A') : RelP d h A' vs ps rs := by
  induction r with
  | nil => exact .nil
  | sh a _ ih => exact .sh (a.mv m) ih
  | ow a _ ih => exact .ow (a.mv m fun _ g => g) ih
theorem setP_ok : ∀ (is : List Nat) {vs : List (Bool × VV)} {ps : List PV} {rs : List Nat} {own : Nat → Option Nat} {env0 env0' : Env0} {env : Env}, RelP D.1 h (Av D (fun q => O q ∨ q ∈ rs) own) vs ps rs → Fr D h (fun q => O q ∨ q ∈ rs) own env0 env s → rs.Nodup → (∀ r ∈ rs, ¬ O r ∧ r ≠ D.1 ∧ r ≠ D.2) → setP is vs env0 = some env0' →
    ∃ env' own', setMany is ps env = some env' ∧ Fr D h O own' env0' env' s ∧ ∀ i r, own' i = some r → own i = some r ∨ r ∈ rs
  | [], vs, ps, rs, own, env0, env0', env, rp, fr, nd, nn, e => by
    cases vs with
    | cons _ _ => cases e
    | nil =>
      cases rp
      cases e
      have : (fun q => O q ∨ q ∈ ([] : List Nat)) = O := by funext q; simp
      rw [this] at fr
      exact ⟨env, own, rfl, fr, fun _ _ z => .inl z⟩
  | i :: is, vs, ps, rs, own, env0, env0', env, rp, fr, nd, nn, e => by
    cases rp with
    | nil => cases e
    | sh a b =>
      have fr1 := fr.put i a
      obtain ⟨env', own', g, fr2, l⟩ := setP_ok is (b.mvE (Mv.less fun q z => z.less fun j r z => (setO_none z).1)) fr1 nd nn e
      exact ⟨env', own', g, fr2, fun j q z => (l j q z).elim (fun z => .inl (setO_none z).1) .inr⟩
    | ow a b =>
      rename_i v r vs ps rs
      have hO : (fun q => O q ∨ q ∈ r :: rs) = fun q => (O q ∨ q ∈ rs) ∨ q = r := by
        funext q
        apply propext
        rw [List.mem_cons]
        constructor
        · rintro (z | z | z)
          · exact .inl (.inl z)
          · exact .inr z
          · exact .inl (.inr z)
        · rintro ((z | z) | z)
          · exact .inl z
          · exact .inr (.inr z)
          · exact .inr (.inl z)
      rw [hO] at fr a b
      obtain ⟨n0, n1, n2⟩ := nn r (List.mem_cons_self ..)
      obtain ⟨nd1, nd2⟩ := List.nodup_cons.mp nd
      have tk := fr.take (O := fun q => O q ∨ q ∈ rs) i a (fun z => z.elim n0 nd1) n1 n2
      have inv : ∀ {j q}, setO' own i (some r) j = some q → own j = some q ∨ q = r := fun {j q} z => by
        unfold setO' at z
        split at z
        · cases z; exact .inr rfl
        · exact .inl z
      obtain ⟨env', own', g, fr2, l⟩ := setP_ok is (b.mvE (Mv.less fun q z => by
        rcases z with z | ⟨j, z⟩ | z
        · exact .inl (.inl z)
        · rcases inv z with z | z
          · exact .inr (.inl ⟨j, z⟩)
          · exact .inl (.inr z)
        · exact .inr (.inr z))) tk nd2 (fun q z => nn q (List.mem_cons_of_mem _ z)) e
      refine ⟨env', own', g, fr2, fun j q z => ?_⟩
      rcases l j q z with z | z
      · rcases inv z with z | z
        · exact .inl z
        · exact .inr (by rw [z]; exact List.mem_cons_self ..)
      · exact .inr (List.mem_cons_of_mem _ z)
variable {P : Prog} {call : Call} {cs : List VV} {call0 : Call0}
theorem sP (hC : SC D call call0) (hK : ConstsOk P cs) : ∀ (es : List E) {O : Nat → Prop} {env : Env} {h : Hq} {own : Nat → Option Nat} {env0 : Env0} {s : Drw}, Fr D h O own env0 env s → match evP cs call0 es env0 s with
    | .ret vs env0' s' => (evEs P call es env h).wp (fun ps h' => ∃ own' rs, Fr D h' (fun q => O q ∨ q ∈ rs) own' env0' env s' ∧ Stp D h own h' own' ∧ RelP D.1 h' (Av D (fun q => O q ∨ q ∈ rs) own') vs ps rs ∧ rs.Nodup ∧ ∀ r ∈ rs, h.n ≤ r) fun _ _ => False
    | .exc c s' => (evEs P call es env h).wp (fun _ _ => False) fun c' h' => c' = c ∧ h.n ≤ h'.n ∧ (∀ r o, h.get r = some o → (∀ i, own i ≠ some r) → r ≠ D.1 → r ≠ D.2 → h'.get r = some o) ∧ Dr D h' s'
    | .fail => True
  | [], O, env, h, own, env0, s, fr => by
    refine ⟨own, [], ?_, Stp.refl, .nil, List.nodup_nil, fun r z => nomatch z⟩
    have : (fun q => O q ∨ q ∈ ([] : List Nat)) = O := by funext q; simp
    rw [this]
    exact fr
  | e :: es, O, env, h, own, env0, s, fr => by
    show match (ev cs call0 e env0 s).bind fun v env s => (evP cs call0 es env s).bind fun vs env s => R0.ret ((isNil e, v) :: vs) env s with
      | .ret vs env0' s' => ((evE P call e env h).bind fun v h1 => (evEs P call es env h1).bind fun vs h2 => .ret (v :: vs) h2).wp _ _
      | .exc c s' => ((evE P call e env h).bind fun v h1 => (evEs P call es env h1).bind fun vs h2 => .ret (v :: vs) h2).wp _ _
      | .fail => True
    have x := sE hC hK e fr
    cases e1 : ev cs call0 e env0 s with
    | fail => trivial
    | exc c s1 =>
      rw [e1] at x
      show Res.wp _ _ _
      rw [Res.wp_bind]
      exact Res.wp_mono x (fun _ _ z => z.elim) fun _ _ z => z
    | ret v env1 s1 =>
      rw [e1] at x
      have x : (evE P call e env h).wp _ _ := x
      cases e2 : evE P call e env h with
      | fail => rw [e2] at x; exact x.elim
      | exc c h1 => rw [e2] at x; exact x.elim
      | ret p h1 =>
        rw [e2] at x
        obtain ⟨own1, fr1, st1, cm1, r1⟩ := x
        have lift : ∀ (O1 : Nat → Prop) (fr1' : Fr D h1 O1 own1 env1 env s1) (fin : ∀ vs ps h2 own2 rs env2 s2, Fr D h2 (fun q => O1 q ∨ q ∈ rs) own2 env2 env s2 → Stp D h1 own1 h2 own2 → RelP D.1 h2 (Av D (fun q => O1 q ∨ q ∈ rs) own2) vs ps rs → rs.Nodup → (∀ r ∈ rs, h1.n ≤ r) →
            ∃ own' rs', Fr D h2 (fun q => O q ∨ q ∈ rs') own' env2 env s2 ∧ Stp D h own h2 own' ∧ RelP D.1 h2 (Av D (fun q => O q ∨ q ∈ rs') own') ((isNil e, v) :: vs) (p :: ps) rs' ∧ rs'.Nodup ∧ ∀ r ∈ rs', h.n ≤ r),
            match (evP cs call0 es env1 s1).bind fun vs env s => R0.ret ((isNil e, v) :: vs) env s with
            | .ret vs env0' s' => ((evEs P call es env h1).bind fun vs h2 => Res.ret (p :: vs) h2).wp (fun ps h' => ∃ own' rs, Fr D h' (fun q => O q ∨ q ∈ rs) own' env0' env s' ∧ Stp D h own h' own' ∧ RelP D.1 h' (Av D (fun q => O q ∨ q ∈ rs) own') vs ps rs ∧ rs.Nodup ∧ ∀ r ∈ rs, h.n ≤ r) fun _ _ => False
            | .exc c s' => ((evEs P call es env h1).bind fun vs h2 => Res.ret (p :: vs) h2).wp (fun _ _ => False) fun c' h' => c' = c ∧ h.n ≤ h'.n ∧ (∀ r o, h.get r = some o → (∀ i, own i ≠ some r) → r ≠ D.1 → r ≠ D.2 → h'.get r = some o) ∧ Dr D h' s'
            | .fail => True := by
          intro O1 fr1' fin
          have y := sP hC hK es fr1'
          cases e3 : evP cs call0 es env1 s1 with
          | fail => trivial
          | exc c s2 =>
            rw [e3] at y
            show Res.wp _ _ _
            rw [Res.wp_bind]
            refine Res.wp_mono y (fun _ _ z => z.elim) fun c' h2 ⟨e, n, k, dr⟩ => ⟨e, Nat.le_trans st1.n n, fun r o g n1 n2 n3 => k r o (st1.keep r o g n1 n2 n3) (fun i z => ?_) n2 n3, dr⟩
            rcases st1.own i r z with z | z
            · exact n1 i z
            · exact absurd (Hq.get_lt g) (Nat.not_lt.mpr z)
          | ret vs env2 s2 =>
            rw [e3] at y
            show Res.wp _ _ _
            rw [Res.wp_bind]
            refine Res.wp_mono y (fun ps h2 ⟨own2, rs, a, b, c, d, f⟩ => fin vs ps h2 own2 rs env2 s2 a b c d f) fun _ _ z => z
        cases hn : isNil e with
        | false =>
          rw [hn] at lift
          exact lift O fr1 fun vs ps h2 own2 rs env2 s2 a b c d f => ⟨own2, rs, a, st1.trans b, .sh (r1.1.mv fun r o na g => ⟨(b.mv r o na g).1, fun z => by
            rcases z with (z | z) | z
            · exact (b.mv r o na g).2 (.inl z)
            · exact absurd (Hq.get_lt g) (Nat.not_lt.mpr (f r z))
            · exact (b.mv r o na g).2 (.inr z)⟩) c, d, fun r z => Nat.le_trans st1.n (f r z)⟩
        | true =>
          rw [hn] at lift
          have he : e = .lst [] := by
            cases e <;> try cases hn
            rename_i l
            cases l with
            | nil => rfl
            | cons _ _ => cases hn
          subst he
          obtain ⟨r, rfl, hr, o⟩ := r1.2 rfl (by
            have : v = .lst [] := by cases e1; rfl
            rw [this]; rfl)
          have cm := cm1 rfl
          have nO : ¬ O r := fun z => absurd (fr.ob r z) (Nat.not_lt.mpr hr)
          have n1 : r ≠ D.1 := fun z => absurd fr.dlt.1 (Nat.not_lt.mpr (by rw [← z]; exact hr))
          have n2 : r ≠ D.2 := fun z => absurd fr.dlt.2 (Nat.not_lt.mpr (by rw [← z]; exact hr))
          have hid := fr.hideNew fr1 cm hr (own_lt o)
          have hv : v = .lst [] := by cases e1; rfl
          subst hv
          refine lift (fun q => O q ∨ q = r) hid fun vs ps h2 own2 rs env2 s2 a b c d f => ?_
          have hO : (fun q => (O q ∨ q = r) ∨ q ∈ rs) = fun q => O q ∨ q ∈ r :: rs := by
            funext q
            apply propext
            rw [List.mem_cons]
            constructor
            · rintro ((z | z) | z)
              · exact .inl z
              · exact .inr (.inl z)
              · exact .inr (.inr z)
            · rintro (z | z | z)
              · exact .inl (.inl z)
              · exact .inl (.inr z)
              · exact .inr z
          rw [hO] at a c
          have gr : h1.get r = some (.lst []) := by
            rcases o with ⟨xs, ys, q1, g, l⟩ | ⟨_, _, q1, _⟩
            · cases q1; cases l; exact g
            · cases q1
          have gr2 := b.keep r _ gr (fun i z => (hid.rg i r z).2.1 (.inr rfl)) n1 n2
          refine ⟨own2, r :: rs, a, st1.trans b, .ow (.inl ⟨[], [], rfl, gr2, .nil⟩) c, List.nodup_cons.mpr ⟨fun z => absurd (own_lt o) (Nat.not_lt.mpr (f r z)), d⟩, fun q z => ?_⟩
          rcases List.mem_cons.mp z with z | z
          · rw [z]; exact hr
          · exact Nat.le_trans st1.n (f q z)
end
end MP.Z

namespace MP.Z
section
variable {D : Nat × Nat} {O : Nat → Prop} {h h' : Hq} {own own' : Nat → Option Nat} {env0 env0' : Env0} {s s' : Drw} {C : Prop}
/-! ### loops -/
theorem for_ok {tg : Tg} {body : Env → Hq → Rs} {body0 : Env0 → Drw → RS} {xs : List VV} {src : Src}
    (hb : ∀ {env : Env} {h : Hq} {own : Nat → Option Nat} {env0 : Env0} {s : Drw}, Fr D h O own env0 env s → OkS D O h own (body env h) (body0 env0 s)) :
    ∀ (vs : List VV) (i : Nat) {env : Env} {h : Hq} {own : Nat → Option Nat} {env0 : Env0} {s : Drw}, xs.drop i = vs → i + vs.length = xs.length → Fr D h O own env0 env s → SrcR D.1 h (Av D O own) xs src → OkS D O h own (forLoop src tg body xs.length vs.length env h) (for0 tg body0 vs env0 s)
  | [], i, env, h, own, env0, s, hx, hi, fr, sr => by
    show OkS D O h own (if src.done h xs.length = true then .ret (.next, env) h else .fail) _
    rw [if_pos sr.done]
    exact OkS.now fr .next
  | v :: vs, i, env, h, own, env0, s, hx, hi, fr, sr => by
    obtain ⟨xe, xd⟩ := drop_cons hx
    obtain ⟨p, pe, pr⟩ := sr.at xe
    rw [List.length_cons] at hi ⊢
    unfold for0
    cases e1 : asgV tg v env0 with
    | none => trivial
    | some env1 =>
      obtain ⟨env', own1, g1, fr1, lo⟩ := asg_ok tg fr pr e1
      unfold forLoop
      rw [show xs.length - (vs.length + 1) = i by omega]
      simp only [pe, g1]
      have st0 : Stp D h own h own1 := ⟨Nat.le_refl _, fun _ _ e _ _ _ => e, fun i r e => .inl (lo i r e)⟩
      refine OkS.trans st0 (OkS.bind (hb fr1) fun f q h2 own2 env2 s2 fr2 st2 rf => ?_)
      obtain ⟨f', env2'⟩ := q
      cases rf with
      | next => exact for_ok hb vs (i + 1) xd (by omega) fr2 ((sr.mv st0.mv).mv st2.mv)
      | cont => exact for_ok hb vs (i + 1) xd (by omega) fr2 ((sr.mv st0.mv).mv st2.mv)
      | ret r => exact OkS.now fr2 (.ret r)
theorem while_ok {c : Env → Hq → Res Bool} {c0 : Env0 → Drw → R0 Bool} {body : Env → Hq → Rs} {body0 : Env0 → Drw → RS}
    (hc : ∀ {env : Env} {h : Hq} {own : Nat → Option Nat} {env0 : Env0} {s : Drw}, Fr D h O own env0 env s → Ok D O env h own env0 False (c env h) (c0 env0 s) fun _ _ b b' => b = b')
    (hb : ∀ {env : Env} {h : Hq} {own : Nat → Option Nat} {env0 : Env0} {s : Drw}, Fr D h O own env0 env s → OkS D O h own (body env h) (body0 env0 s)) :
    ∀ (m : Nat) {env : Env} {h : Hq} {own : Nat → Option Nat} {env0 : Env0} {s : Drw}, Fr D h O own env0 env s → OkS D O h own (whileLoop c body m env h) (while0 c0 body0 m env0 s)
  | 0, env, h, own, env0, s, fr => trivial
  | m + 1, env, h, own, env0, s, fr => by
    unfold while0 whileLoop
    refine OkS.bindE (hc fr) fun b b' h1 own1 env1 s1 fr1 st1 cm1 r1 => ?_
    subst r1
    cases b with
    | false =>
      rw [if_neg Bool.false_ne_true, if_neg Bool.false_ne_true]
      exact OkS.now fr1 .next
    | true =>
      rw [if_pos rfl, if_pos rfl]
      refine OkS.bind (hb fr1) fun f q h2 own2 env2 s2 fr2 st2 rf => ?_
      obtain ⟨f', env2'⟩ := q
      cases rf with
      | next => exact while_ok hc hb m fr2
      | cont => exact while_ok hc hb m fr2
      | ret r => exact OkS.now fr2 (.ret r)
variable {P : Prog} {call : Call} {cs : List VV} {call0 : Call0} {wf : Nat}
theorem ifS_ok {env : Env} {v : VV} {p : PV} {fa fb : Hq → Rs} {ga gb : Env0 → Drw → RS} {A : Nat → Prop} (r : Rv D.1 h A v p) (xa : OkS D O h own (fa h) (ga env0 s)) (xb : OkS D O h own (fb h) (gb env0 s)) : OkS D O h own (ifS p h fa fb) (ifV v env0 s ga gb) := by
  cases v <;> try trivial
  rename_i b
  cases r
  cases b
  · exact xb
  · exact xa
/-- x += v -/
theorem aug_ok {env : Env} {op : BOp} {i : Nat} {v w : VV} {p q : PV} {b : Bool} (fr : Fr D h O own env0 env s) (hp : env[i]? = some (some p)) (rw' : RvP D h (Av D O own) w q) :
    OkS D O h own ((augS op h p q).bind fun u h2 => .ret (.next, env.set i (some u)) h2) (augW op i w env0 s) := by
  unfold augW
  split
  · rename_i b u e
    cases op <;> try trivial
    cases u <;> try trivial
    · -- int
      cases w <;> try trivial
      rename_i a c
      obtain rfl := rw'.b.int_inv
      cases b with
      | true =>
        obtain ⟨r, g1, g2, g3⟩ := fr.ow i _ e
        rcases g3 with ⟨_, _, q1, _⟩ | ⟨_, _, q1, _⟩ <;> cases q1
      | false =>
        obtain ⟨p', g1, g2⟩ := fr.sh i _ e
        rw [hp] at g1
        cases g1
        cases g2
        exact ⟨_, fr.put i (.int _), ⟨Nat.le_refl _, fun _ _ e _ _ _ => e, fun j r z => .inl (setO_none z).1⟩, .next⟩
    · -- list
      cases w <;> try trivial
      rename_i xs ys
      show OkS D O h own _ (if (b && le' (xs.length + ys.length) SL) = true then .ret .next (env0.set i (some (true, .lst (xs ++ ys)))) s else .fail)
      split
      · rename_i hb
        obtain ⟨hb1, hb2⟩ := and2 hb
        subst hb1
        obtain ⟨r, g1, g2, g3⟩ := fr.ow i _ e
        rw [hp] at g2
        cases g2
        rcases g3 with ⟨xs', zs, q1, q2, q3⟩ | ⟨_, _, q1, _⟩
        · cases q1
          obtain ⟨a, qs, rfl, k1, k2⟩ := rw'.b.lst_inv
          have hz : le' (zs.length + qs.length) SL = true := by rw [← q3.length, ← k2.length]; exact hb2
          unfold augS
          simp only [q2, k1, if_pos hz]
          have hr := (fr.rg i r g1).1
          have st0 : Stp D h own (h.set r (.lst (zs ++ qs))) own := wr_stp fr g1
          have wr := fr.write (w := .lst (xs ++ ys)) g1 e (o := .lst (zs ++ qs)) (.inl ⟨_, _, rfl, by rw [Hq.get_set h r r _ hr, if_pos rfl], (q3.mv st0.mv).append (k2.mv st0.mv)⟩)
          show OkS D O h own (.ret (.next, env.set i (some (.ref r))) _) _
          rw [set_same hp]
          exact ⟨own, wr.1, wr.2, .next⟩
        · cases q1
      · trivial
  · trivial
/-- x[k] = v -/
theorem seti_ok {env : Env} {i : Nat} {k v : VV} {kp vp : PV} {r : Nat} (fr : Fr D h O own env0 env s) (hp : env[i]? = some (some (.ref r))) (rk : Rv D.1 h (Av D O own) k kp) (rv : Rv D.1 h (Av D O own) v vp) :
    OkS D O h own (hqF env (setIdx h (.ref r) kp vp)) (seti0 i k v env0 s) := by
  unfold seti0
  split
  · rename_i kvs e
    split
    · rename_i hb
      obtain ⟨hb1, hb2⟩ := and2 hb
      obtain ⟨r', g1, g2, g3⟩ := fr.ow i _ e
      rw [hp] at g2
      cases g2
      rcases g3 with ⟨_, _, q1, _⟩ | ⟨xs', zs, q1, q2, q3⟩
      · cases q1
      · cases q1
        have hz : (isKey kp && le' (zs.length + 1) SL) = true := by rw [key_ok rk hb1, ← q3.length, hb2]; rfl
        have es : setIdx h (.ref r) kp vp = some (h.set r (.dk (dPut zs kp vp))) := by
          show setO h r kp vp (h.get r) = _
          rw [q2]
          exact if_pos hz
        rw [es]
        have hr := (fr.rg i r g1).1
        have st0 : Stp D h own (h.set r (.dk (dPut zs kp vp))) own := wr_stp fr g1
        have wr := fr.write (w := .dic (dPut0 kvs k v)) g1 e (o := .dk (dPut zs kp vp)) (.inr ⟨_, _, rfl, by rw [Hq.get_set h r r _ hr, if_pos rfl], dPut_ok (q3.mv st0.mv) (rk.mv st0.mv) (rv.mv st0.mv)⟩)
        exact ⟨own, wr.1, wr.2, .next⟩
    · trivial
  · rename_i xs e
    cases k <;> try trivial
    rename_i j
    cases rk
    show OkS D O h own _ (if (decide (0 ≤ j) && le' (j.toNat + 1) xs.length) = true then .ret .next (env0.set i (some (true, .lst (xs.set j.toNat v)))) s else .fail)
    split
    · rename_i hb
      obtain ⟨r', g1, g2, g3⟩ := fr.ow i _ e
      rw [hp] at g2
      cases g2
      rcases g3 with ⟨xs', zs, q1, q2, q3⟩ | ⟨_, _, q1, _⟩
      · cases q1
        have es : setIdx h (.ref r) (.int j) vp = some (h.set r (.lst (zs.set j.toNat vp))) := by
          show setO h r (.int j) vp (h.get r) = _
          rw [q2]
          exact if_pos (by rw [← q3.length]; exact hb)
        rw [es]
        have hr := (fr.rg i r g1).1
        have st0 : Stp D h own (h.set r (.lst (zs.set j.toNat vp))) own := wr_stp fr g1
        have wr := fr.write (w := .lst (xs.set j.toNat v)) g1 e (o := .lst (zs.set j.toNat vp)) (.inl ⟨_, _, rfl, by rw [Hq.get_set h r r _ hr, if_pos rfl], (q3.mv st0.mv).set (rv.mv st0.mv) _⟩)
        exact ⟨own, wr.1, wr.2, .next⟩
      · cases q1
    · trivial
  · trivial
theorem Fr.none1 (fr : Fr D h O own env0 env s) (n : Nat) : Fr D h O own (env0.set n none) (env.set n none) s := by
  refine ⟨by rw [List.length_set, List.length_set]; exact fr.len, fun j w e => ?_, fun j w e => ?_, fr.inj, fr.rg, fr.ob, fr.dr⟩
  · by_cases hj : n = j
    · subst hj
      have hl : n < env0.length := by have := (List.getElem?_eq_some_iff.mp e).1; simpa using this
      rw [List.getElem?_set_self hl] at e
      cases e
    · rw [List.getElem?_set_ne hj] at e
      obtain ⟨q, h1, h2⟩ := fr.sh j w e
      exact ⟨q, by rw [List.getElem?_set_ne hj]; exact h1, h2⟩
  · by_cases hj : n = j
    · subst hj
      have hl : n < env0.length := by have := (List.getElem?_eq_some_iff.mp e).1; simpa using this
      rw [List.getElem?_set_self hl] at e
      cases e
    · rw [List.getElem?_set_ne hj] at e
      obtain ⟨q, h1, h2, h3⟩ := fr.ow j w e
      exact ⟨q, h1, by rw [List.getElem?_set_ne hj]; exact h2, h3⟩
theorem try_ok {env : Env} {i : Option Nat} {n m ne N : Nat} {C : Prop} {e : E} {t : Res PV} {r : R0 VV} (fr : Fr D h O own env0 env s) (x : Ok D O env h own env0 C t r (RelV D N e)) : OkS D O h own (tryF i n m ne env h t) (try0 i n m ne env0 r) := by
  cases r with
  | fail => trivial
  | ret v env1 s1 =>
    have x : t.wp _ _ := x
    cases t with
    | fail => exact x.elim
    | exc c h1 => exact x.elim
    | ret p h1 =>
      obtain ⟨own1, fr1, st1, cm1, rv, _⟩ := x
      cases i with
      | none => exact ⟨own1, fr1, st1, .next⟩
      | some i => exact ⟨_, fr1.put i rv, st1.less fun j q z => (setO_none z).1, .next⟩
  | exc c s1 =>
    have x : t.wp _ _ := x
    show OkS D O h own _ (if Nat.blt c ne = true then .ret .next (((hide env0).set m (some (false, .exc c))).set n none) s1 else .fail)
    split
    · rename_i hc
      cases t with
      | fail => exact x.elim
      | ret p h1 => exact x.elim
      | exc c' h1 =>
        obtain ⟨rfl, hn, kp, dr⟩ := x
        have et : tryF i n m ne env h (.exc c' h1 : Res PV) = .ret (.next, (env.set m (some (.ref h1.n))).set n none) (h1.push (.exc c')) := by
          show (if Nat.blt c' ne = true then _ else _) = _
          rw [if_pos hc]
        rw [et]
        have m1 : Mv h (Av D O own) h1 (Av D O noOwn) := fun r o na e => ⟨kp r o e (fun i z => na (.inr (.inl ⟨i, z⟩))) (fun z => na (.inr (.inr (.inl z)))) (fun z => na (.inr (.inr (.inr z)))), fun z => by
          rcases z with z | ⟨i, z⟩ | z
          · exact na (.inl z)
          · cases z
          · exact na (.inr (.inr z))⟩
        have fr1 : Fr D h1 O noOwn (hide env0) env s1 := by
          refine ⟨by rw [← fr.len]; exact List.length_map .., fun i v e => ?_, fun i v e => ?_, fun _ _ _ e => (by cases e), fun _ _ e => (by cases e), fun r z => Nat.lt_of_lt_of_le (fr.ob r z) hn, dr⟩
          · obtain ⟨_, e2⟩ := hide_get e
            obtain ⟨p, g1, g2⟩ := fr.sh i v e2
            exact ⟨p, g1, g2.mv m1⟩
          · obtain ⟨z, _⟩ := hide_get e
            cases z
        have fr2 : Fr D (h1.push (.exc c')) O noOwn (hide env0) env s1 := fr1.extS ExtS.push
        have rv : Rv D.1 (h1.push (.exc c')) (Av D O noOwn) (.exc c') (.ref h1.n) := .exc (fun z => Nat.lt_irrefl _ (fr1.hA _ z)) get_new
        exact ⟨_, (fr2.put m rv).none1 n, ⟨Nat.le_trans hn (Nat.le_succ _), fun r o e n1 n2 n3 => get_old (kp r o e n1 n2 n3), fun i r z => by cases (setO_none z).1⟩, .next⟩
    · trivial
variable (hC : SC D call call0) (hK : ConstsOk P cs)
include hC hK
mutual
theorem sS : ∀ (t : S) {O : Nat → Prop} {env : Env} {h : Hq} {own : Nat → Option Nat} {env0 : Env0} {s : Drw}, Fr D h O own env0 env s → OkS D O h own (xS P call wf t env h) (x0 cs call0 wf t env0 s)
  | .asg t e, O, env, h, own, env0, s, fr => by
    show OkS D O h own ((evE P call e env h).bind fun v h1 => envF h1 (asgT t v env)) ((ev cs call0 e env0 s).bind fun v env s => asgF t (frC e) v env s)
    have x := sE hC hK e fr
    cases e1 : ev cs call0 e env0 s with
    | fail => trivial
    | exc c s1 =>
      rw [e1] at x
      show Res.wp _ _ _
      rw [Res.wp_bind]
      exact Res.wp_mono x (fun _ _ z => z.elim) fun _ _ z => z
    | ret v env1 s1 =>
      rw [e1] at x
      have x : (evE P call e env h).wp _ _ := x
      cases e2 : evE P call e env h with
      | fail => rw [e2] at x; exact x.elim
      | exc c h1 => rw [e2] at x; exact x.elim
      | ret p h1 =>
        rw [e2] at x
        obtain ⟨own1, fr1, st1, cm1, r1⟩ := x
        exact asgF_ok fr fr1 st1 cm1 r1
  | .par is es, O, env, h, own, env0, s, fr => by
    show OkS D O h own ((evEs P call es env h).bind fun vs h1 => envF h1 (setMany is vs env)) ((evP cs call0 es env0 s).bind fun vs env s => envO (setP is vs env) s)
    have x := sP hC hK es fr
    cases e1 : evP cs call0 es env0 s with
    | fail => trivial
    | exc c s1 =>
      rw [e1] at x
      show Res.wp _ _ _
      rw [Res.wp_bind]
      exact Res.wp_mono x (fun _ _ z => z.elim) fun _ _ z => z
    | ret vs env1 s1 =>
      rw [e1] at x
      have x : (evEs P call es env h).wp _ _ := x
      cases e2 : evEs P call es env h with
      | fail => rw [e2] at x; exact x.elim
      | exc c h1 => rw [e2] at x; exact x.elim
      | ret ps h1 =>
        rw [e2] at x
        obtain ⟨own1, rs, fr1, st1, rp, nd, hn⟩ := x
        show OkS D O h own (envF h1 (setMany is ps env)) (envO (setP is vs env1) s1)
        cases e3 : setP is vs env1 with
        | none => trivial
        | some env2 =>
          obtain ⟨env', own2, g, fr2, l⟩ := setP_ok is rp fr1 nd (fun r z => ⟨fun o => absurd (fr.ob r o) (Nat.not_lt.mpr (hn r z)), fun o => absurd fr.dlt.1 (Nat.not_lt.mpr (by rw [← o]; exact hn r z)), fun o => absurd fr.dlt.2 (Nat.not_lt.mpr (by rw [← o]; exact hn r z))⟩) e3
          rw [g]
          exact ⟨own2, fr2, ⟨st1.n, st1.keep, fun i r z => (l i r z).elim (st1.own i r) fun z => .inr (hn r z)⟩, .next⟩
  | .seta _ _ _, O, env, h, own, env0, s, fr => trivial
  | .seti o i e, O, env, h, own, env0, s, fr => by
    show OkS D O h own ((evE P call e env h).bind fun v h1 => (evE P call o env h1).bind fun w h2 => (evE P call i env h2).bind fun k h3 => hqF env (setIdx h3 w k v)) (match varOf o with
      | some j => if calmE i = true then (ev cs call0 e env0 s).bind fun v env s => if ownsX env j = true then (ev cs call0 i env s).bind fun k env s => seti0 j k v env s else .fail else .fail
      | none => .fail)
    cases hv : varOf o with
    | none => trivial
    | some j =>
      have ho : o = .var j := by cases o <;> first | (cases hv; rfl) | cases hv
      subst ho
      show OkS D O h own ((evE P call e env h).bind fun v h1 => (varF env[j]? h1).bind fun w h2 => (evE P call i env h2).bind fun k h3 => hqF env (setIdx h3 w k v)) (if calmE i = true then (ev cs call0 e env0 s).bind fun v env s => if ownsX env j = true then (ev cs call0 i env s).bind fun k env s => seti0 j k v env s else .fail else .fail)
      split
      · refine OkS.bindE (sE hC hK e fr) fun v p h1 own1 env1 s1 fr1 st1 cm1 r1 => ?_
        split
        · rename_i hw
          unfold ownsX at hw
          split at hw
          · rename_i x ex
            obtain ⟨r, g1, g2, g3⟩ := fr1.ow j _ ex
            rw [g2]
            show OkS D O h1 own1 ((evE P call i env h1).bind fun k h3 => hqF env (setIdx h3 (.ref r) k p)) _
            exact OkS.bindE (sE hC hK i fr1) fun k kp h2 own2 env2 s2 fr2 st2 cm2 r2 => seti_ok fr2 g2 r2.1 (r1.1.mv st2.mv)
          · cases hw
        · trivial
      · trivial
  | .aug i op e, O, env, h, own, env0, s, fr => by
    show OkS D O h own ((varF env[i]? h).bind fun v h => (evE P call e env h).bind fun w h1 => (augS op h1 v w).bind fun u h2 => .ret (.next, env.set i (some u)) h2) (if (calmE e && hasV env0 i) = true then (borrow e env0 s (ev cs call0 e env0 s)).bind fun w env s => augW op i w env s else .fail)
    split
    · rename_i hb
      have hw := (and2 hb).2
      unfold hasV at hw
      split at hw
      · rename_i x ex
        obtain ⟨b, v⟩ := x
        have hp : ∃ p : PV, env[i]? = some (some p) := by
          cases b with
          | false => obtain ⟨p, g, _⟩ := fr.sh i v ex; exact ⟨p, g⟩
          | true => obtain ⟨r, _, g, _⟩ := fr.ow i v ex; exact ⟨_, g⟩
        obtain ⟨p, hp⟩ := hp
        rw [hp]
        show OkS D O h own ((evE P call e env h).bind fun w h1 => (augS op h1 p w).bind fun u h2 => .ret (.next, env.set i (some u)) h2) _
        exact OkS.bindE (bor e fr (sE hC hK e fr)) fun w q h1 own1 env1 s1 fr1 st1 cm1 r1 => aug_ok (v := .non) (b := true) fr1 hp r1
      · cases hw
    · trivial
  | .expr e, O, env, h, own, env0, s, fr => OkS.bindE (sE hC hK e fr) fun v p h1 own1 env1 s1 fr1 st1 cm1 r1 => OkS.now fr1 .next
  | .ret e, O, env, h, own, env0, s, fr => OkS.bindE (sE hC hK e fr) fun v p h1 own1 env1 s1 fr1 st1 cm1 r1 => OkS.now fr1 (.ret r1.1)
  | .retN, O, env, h, own, env0, s, fr => OkS.now fr (.ret .non)
  | .ife c a b, O, env, h, own, env0, s, fr => OkS.bindE (sE hC hK c fr) fun v p h1 own1 env1 s1 fr1 st1 cm1 r1 => ifS_ok (env := env) r1.1 (sSs a fr1) (sSs b fr1)
  | .for t it body, O, env, h, own, env0, s, fr => by
    refine OkS.bindE (sI hC hK it fr) fun xs src h1 own1 env1 s1 fr1 st1 cm1 sr => ?_
    rw [sr.size]
    exact for_ok (fun fr => sSs body fr) xs 0 (List.drop_zero ..) (Nat.zero_add _) fr1 sr
  | .while c body, O, env, h, own, env0, s, fr => while_ok (fun fr => Ok.weak (Ok.bind (C2 := True) (Rel2 := fun _ _ b b' => b = b') (sE hC hK c fr) fun v p h1 own1 env1 s1 fr1 st1 cm1 r1 => tru_ok fr1 r1.1) (fun z => z.elim) (fun _ _ _ _ z => z)) (fun fr => sSs body fr) wf fr
  | .raise c, O, env, h, own, env0, s, fr => ⟨rfl, Nat.le_refl _, fun _ _ e _ _ _ => e, fr.dr⟩
  | .pass, O, env, h, own, env0, s, fr => OkS.now fr .next
  | .cont, O, env, h, own, env0, s, fr => OkS.now fr .cont
  | .try_ i e n m ne, O, env, h, own, env0, s, fr => try_ok fr (sE hC hK e fr)
theorem sSs : ∀ (ts : List S) {O : Nat → Prop} {env : Env} {h : Hq} {own : Nat → Option Nat} {env0 : Env0} {s : Drw}, Fr D h O own env0 env s → OkS D O h own (xSs P call wf ts env h) (x0s cs call0 wf ts env0 s)
  | [], O, env, h, own, env0, s, fr => OkS.now fr .next
  | t :: ts, O, env, h, own, env0, s, fr => by
    refine OkS.bind (sS t fr) fun f p h1 own1 env1 s1 fr1 st1 rf => ?_
    obtain ⟨f', env'⟩ := p
    cases rf with
    | next => exact sSs ts fr1
    | cont => exact OkS.now fr1 .cont
    | ret r => exact OkS.now fr1 (.ret r)
end
end
/-! ### defs -/
section
variable {D : Nat × Nat} {P : Prog} {cs : List VV} {ext : Nat → Option (Call0 → List VV → Drw → RF)} {wf : Nat}
/-- one def given from outside -/
def ExtOk (D : Nat × Nat) (call : Call) (i : Nat) (g : List VV → Drw → RF) : Prop := ∀ (vs : List VV) (ps : List PV) (h : Hq) (s : Drw) (A : Nat → Prop), A D.1 → A D.2 → (∀ r, A r → r < h.n) → RvL D.1 h A vs ps → Dr D h s →
  match g vs s with
  | .ret v s' => (call i ps h).wp (fun p h' => ExtD D h h' ∧ Dr D h' s' ∧ Rv D.1 h' A v p) fun _ _ => False
  | .exc c s' => (call i ps h).wp (fun _ _ => False) fun c' h' => c' = c ∧ ExtD D h h' ∧ Dr D h' s'
  | .fail => True
theorem args_fr {vs : List VV} {ps : List PV} {h : Hq} {s : Drw} {A : Nat → Prop} (hA : ∀ r, A r → r < h.n) (r : RvL D.1 h A vs ps) (dr : Dr D h s) (a1 : A D.1) (a2 : A D.2) (m : Nat) : Fr D h A noOwn (vs.map (fun v => some (false, v)) ++ List.replicate m none) (ps.map some ++ List.replicate m none) s := by
  have eA : Av D A noOwn = A := by
    funext q
    apply propext
    constructor
    · rintro (z | ⟨i, z⟩ | z | z)
      · exact z
      · cases z
      · rw [z]; exact a1
      · rw [z]; exact a2
    · exact fun z => .inl z
  have get : ∀ (i : Nat) (b : Bool) (v : VV), (vs.map (fun v => some (false, v)) ++ List.replicate m none)[i]? = some (some (b, v)) → b = false ∧ vs[i]? = some v := fun i b v e => by
    by_cases hi : i < vs.length
    · rw [List.getElem?_append_left (by rw [List.length_map]; exact hi), List.getElem?_map] at e
      cases ea : vs[i]? with
      | none => rw [ea] at e; cases e
      | some a => rw [ea] at e; cases e; exact ⟨rfl, rfl⟩
    · rw [List.getElem?_append_right (by rw [List.length_map]; omega), List.getElem?_replicate] at e
      split at e <;> cases e
  refine ⟨by rw [List.length_append, List.length_append, List.length_map, List.length_map, List.length_replicate, List.length_replicate, r.length], fun i v e => ?_, fun i v e => ?_, fun _ _ _ e => (by cases e), fun _ _ e => (by cases e), hA, dr⟩
  · obtain ⟨_, ev⟩ := get i false v e
    obtain ⟨p, h1, h2⟩ := r.get ev
    rw [eA]
    have hi : i < ps.length := (List.getElem?_eq_some_iff.mp h1).1
    exact ⟨p, by rw [List.getElem?_append_left (by rw [List.length_map]; exact hi), List.getElem?_map, h1]; rfl, h2⟩
  · obtain ⟨q, _⟩ := get i true v e
    cases q
theorem f0_ok (hK : ConstsOk P cs) (hE : ∀ i g, ext i = some g → ∀ k call0, SC D (evF P wf k) call0 → ExtOk D (evF P wf (k + 1)) i (g call0)) : ∀ k : Nat, SC D (evF P wf k) (f0 P cs ext wf k)
  | 0 => fun i vs ps h s A _ _ _ _ _ => trivial
  | k + 1 => fun i vs ps h s A a1 a2 hA r dr => by
    show match (match ext i with
      | some g => g (f0 P cs ext wf k) vs s
      | none => match P.fns[i]? with
        | some d => if vs.length = d.np then rt0 (x0s cs (f0 P cs ext wf k) wf d.body (vs.map (fun v => some (false, v)) ++ List.replicate (d.nl - d.np) none) s) else .fail
        | none => .fail) with
      | .ret v s' => (evF P wf (k + 1) i ps h).wp (fun p h' => ExtD D h h' ∧ Dr D h' s' ∧ Rv D.1 h' A v p) fun _ _ => False
      | .exc c s' => (evF P wf (k + 1) i ps h).wp (fun _ _ => False) fun c' h' => c' = c ∧ ExtD D h h' ∧ Dr D h' s'
      | .fail => True
    cases e1 : ext i with
    | some g => exact hE i g e1 k _ (f0_ok hK hE k) vs ps h s A a1 a2 hA r dr
    | none =>
      cases e2 : P.fns[i]? with
      | none => trivial
      | some d =>
        by_cases hl : vs.length = d.np
        · have hl2 : ps.length = d.np := by rw [← r.length]; exact hl
          have e3 : evF P wf (k + 1) i ps h = (xSs P (evF P wf k) wf d.body (ps.map some ++ List.replicate (d.nl - d.np) none) h).bind rtOf := by
            show (match P.fns[i]? with
              | some d => if ps.length = d.np then (xSs P (evF P wf k) wf d.body (ps.map some ++ List.replicate (d.nl - d.np) none) h).bind rtOf else .fail
              | none => .fail) = _
            rw [e2]
            exact if_pos hl2
          have eA : Av D A noOwn = A := by
            funext q
            apply propext
            constructor
            · rintro (z | ⟨i, z⟩ | z | z)
              · exact z
              · cases z
              · rw [z]; exact a1
              · rw [z]; exact a2
            · exact fun z => .inl z
          have x := sSs (wf := wf) (f0_ok hK hE k) hK d.body (args_fr hA r dr a1 a2 (d.nl - d.np))
          simp only [if_pos hl, e3]
          cases e4 : x0s cs (f0 P cs ext wf k) wf d.body (vs.map (fun v => some (false, v)) ++ List.replicate (d.nl - d.np) none) s with
          | fail => trivial
          | exc c s1 =>
            rw [e4] at x
            show Res.wp _ _ _
            rw [Res.wp_bind]
            exact Res.wp_mono x (fun _ _ z => z.elim) fun c' h' ⟨a, n, kp, d'⟩ => ⟨a, ⟨n, fun r o g n1 n2 => kp r o g (fun _ z => by cases z) n1 n2⟩, d'⟩
          | ret f env1 s1 =>
            rw [e4] at x
            have x : (xSs P (evF P wf k) wf d.body (ps.map some ++ List.replicate (d.nl - d.np) none) h).wp _ _ := x
            have fin : ∀ (own' : Nat → Option Nat) (h' : Hq) (env' : Env), Fr D h' A own' env1 env' s1 → Stp D h noOwn h' own' → ExtD D h h' ∧ ∀ r o, ¬ Av D A own' r → h'.get r = some o → ¬ A r := fun own' h' env' fr st => ⟨⟨st.n, fun r o g n1 n2 => st.keep r o g (fun _ z => by cases z) n1 n2⟩, fun r o na _ z => na (.inl z)⟩
            cases f with
            | cont => trivial
            | next =>
              show Res.wp _ _ _
              rw [Res.wp_bind]
              refine Res.wp_mono x (fun p h' ⟨own', fr', st', rf⟩ => ?_) fun _ _ z => z
              obtain ⟨f', env'⟩ := p
              cases rf
              exact ⟨(fin own' h' env' fr' st').1, fr'.dr, .non⟩
            | ret v =>
              show Res.wp _ _ _
              rw [Res.wp_bind]
              refine Res.wp_mono x (fun p h' ⟨own', fr', st', rf⟩ => ?_) fun _ _ z => z
              obtain ⟨f', env'⟩ := p
              cases rf with
              | ret rv => exact ⟨(fin own' h' env' fr' st').1, fr'.dr, rv.mv fun r o na g => ⟨g, (fin own' h' env' fr' st').2 r o na g⟩⟩
        · simp only [if_neg hl]
end
end MP.Z

/-! defs with one list of lists of their own: x[-1].append(v), x.append([]), f(x.pop()) -/
namespace MP.Z
abbrev DD := List (List VV)
inductive RD where
  | ret (f : Fl0) (env : Env0) (dd : DD) (s : Drw)
  | exc (c : Nat) (s : Drw)
  | fail
def RD.bind (t : RD) (k : Fl0 → Env0 → DD → Drw → RD) : RD := match t with
  | .ret f env dd s => k f env dd s
  | .exc c s => .exc c s
  | .fail => .fail
def frz (dd : DD) : Option (Bool × VV) := some (false, .lst (dd.map .lst))
section
variable (cs : List VV) (call : Call0) (wf : Nat) (dv : Nat)
def chkD (o : Option (Option (Bool × VV))) (r : RD) : RD := match o with
  | some none => r
  | _ => .fail
def genD (r : RS) (dd : DD) : RD := match r with
  | .ret f env s => chkD env[dv]? (.ret f env dd s)
  | .exc c s => .exc c s
  | .fail => .fail
def seqD (f : Fl0) (env : Env0) (dd : DD) (s : Drw) (k : Env0 → DD → Drw → RD) : RD := match f with
  | .next => k env dd s
  | f => .ret f env dd s
def newD (env : Env0) (dd : DD) (s : Drw) : RD := if le' (dd.length + 1) SL = true then .ret .next env (dd ++ [[]]) s else .fail
def lastL (o : Option (List VV)) (v : VV) (env : Env0) (dd : DD) (s : Drw) : RD := match o with
  | some l => if le' (l.length + 1) SL = true then .ret .next env (dd.dropLast ++ [l ++ [v]]) s else .fail
  | none => .fail
def lastD (r : R0 VV) (dd : DD) : RD := match r with
  | .ret v env s => chkD env[dv]? (lastL dd.getLast? v env dd s)
  | _ => .fail
def popR (j : Nat) (r : RF) (env : Env0) (dd : DD) : RD := match r with
  | .ret v s => .ret .next (env.set j (some (false, v))) dd.dropLast s
  | .exc c s => .exc c s
  | .fail => .fail
def popD (j f : Nat) (env : Env0) (dd : DD) (s : Drw) : RD := match dd.getLast? with
  | some l => popR j (call f [.lst l] s) env dd
  | none => .fail
def iteD (r : R0 VV) (a b : Drw → RD) : RD := match r with
  | .ret (.bl c) _ s => if c = true then a s else b s
  | .ret _ _ _ => .fail
  | .exc c s => .exc c s
  | .fail => .fail
def forD (j : Nat) (body : Env0 → DD → Drw → RD) : List VV → Env0 → DD → Drw → RD
  | [], env, dd, s => .ret .next env dd s
  | v :: vs, env, dd, s => (body (env.set j (some (false, v))) dd s).bind fun f env dd s => match f with
    | .next => forD j body vs env dd s
    | .cont => forD j body vs env dd s
    | .ret v => .ret (.ret v) env dd s
/-- one statement of the deep part that is not a block -/
def oneD : E → Env0 → DD → Drw → RD
  | .mt .append (.var i) [a], env, dd, s => if i = dv then (match a with
      | .lst [] => newD env dd s
      | _ => .fail) else genD dv (x0 cs call wf (.expr (.mt .append (.var i) [a])) env s) dd
  | .mt .append (.idx (.var i) (.neg (.int 1))) [a], env, dd, s => if i = dv then lastD dv (ev cs call a env s) dd else .fail
  | _, _, _, _ => .fail
def asgD (j : Nat) : E → Env0 → DD → Drw → RD
  | .call f [.mt .pop (.var i) []], env, dd, s => if i = dv then popD call j f env dd s else .fail
  | e, env, dd, s => genD dv (x0 cs call wf (.asg (.name j) e) env s) dd
mutual
def xD : S → Env0 → DD → Drw → RD
  | .expr e, env, dd, s => oneD cs call wf dv e env dd s
  | .asg (.name j) e, env, dd, s => if j = dv then .fail else asgD cs call wf dv j e env dd s
  | .ret e, env, dd, s => genD dv (x0 cs call wf (.ret e) env s) dd
  | .ife c a b, env, dd, s => if calmE c = true then iteD (ev cs call c (env.set dv (frz dd)) s) (fun s => xDs a env dd s) (fun s => xDs b env dd s) else .fail
  | _, _, _, _ => .fail
def xDs : List S → Env0 → DD → Drw → RD
  | [], env, dd, s => .ret .next env dd s
  | st :: r, env, dd, s => (xD st env dd s).bind fun f env dd s => seqD f env dd s fun env dd s => xDs r env dd s
end
end
/-! ### what it means -/
section
variable {D : Nat × Nat} {O O' O2 : Nat → Prop} {h h' h2 : Hq} {own own' : Nat → Option Nat} {env0 env0' : Env0} {env env' : Env} {s s' : Drw} {A A' : Nat → Prop} {d : Nat}
inductive DI (d : Nat) (h : Hq) (A : Nat → Prop) : DD → List Nat → Prop
  | nil : DI d h A [] []
  | cons {xs : List VV} {ys : List PV} {q : Nat} {dd : DD} {qs : List Nat} : h.get q = some (.lst ys) → RvL d h A xs ys → DI d h A dd qs → DI d h A (xs :: dd) (q :: qs)
theorem DI.mv {dd : DD} {qs : List Nat} (r : DI d h A dd qs) (k : ∀ q ∈ qs, ∀ o, h.get q = some o → h'.get q = some o) (m : Mv h A h' A') : DI d h' A' dd qs := by
  induction r with
  | nil => exact .nil
  | cons g l _ ih => exact .cons (k _ (List.mem_cons_self ..) _ g) (l.mv m) (ih fun q hq => k q (List.mem_cons_of_mem _ hq))
theorem DI.length {dd : DD} {qs : List Nat} (r : DI d h A dd qs) : dd.length = qs.length := by
  induction r with
  | nil => rfl
  | cons _ _ _ ih => rw [List.length_cons, List.length_cons, ih]
theorem DI.append {dd dd2 : DD} {qs qs2 : List Nat} (r : DI d h A dd qs) (t : DI d h A dd2 qs2) : DI d h A (dd ++ dd2) (qs ++ qs2) := by
  induction r with
  | nil => exact t
  | cons g l _ ih => exact .cons g l ih
theorem DI.split {dd : DD} {qs : List Nat} (r : DI d h A dd qs) {l : List VV} (e : dd.getLast? = some l) : ∃ dd' qs' q ys, dd = dd' ++ [l] ∧ qs = qs' ++ [q] ∧ h.get q = some (.lst ys) ∧ RvL d h A l ys ∧ DI d h A dd' qs' := by
  induction r with
  | nil => cases e
  | cons g l' r' ih =>
    rename_i xs ys q dd qs
    cases dd with
    | nil =>
      cases r'
      cases e
      exact ⟨[], [], q, ys, rfl, rfl, g, l', .nil⟩
    | cons x dd =>
      obtain ⟨dd', qs', q', ys', e1, e2, a, b, c⟩ := ih (by rw [List.getLast?_cons_cons] at e; exact e)
      exact ⟨xs :: dd', q :: qs', q', ys', by rw [e1]; rfl, by rw [e2]; rfl, a, b, .cons g l' c⟩
theorem DI.rv {dd : DD} {qs : List Nat} (r : DI d h A dd qs) (n : ∀ q ∈ qs, ¬ A q) : RvL d h A (dd.map .lst) (qs.map .ref) := by
  induction r with
  | nil => exact .nil
  | cons g l _ ih => exact .cons (.lst (n _ (List.mem_cons_self ..)) g l) (ih fun q hq => n q (List.mem_cons_of_mem _ hq))
def OP (O : Nat → Prop) (rr : Nat) (qs : List Nat) : Nat → Prop := fun x => O x ∨ x = rr ∨ x ∈ qs
structure Df (D : Nat × Nat) (O : Nat → Prop) (dv rr : Nat) (qs : List Nat) (h : Hq) (own : Nat → Option Nat) (env0 : Env0) (env : Env) (s : Drw) (dd : DD) : Prop where
  fr : Fr D h (OP O rr qs) own env0 env s
  e0 : env0[dv]? = some none
  e1 : env[dv]? = some (some (.ref rr))
  out : h.get rr = some (.lst (qs.map .ref))
  inn : DI D.1 h (Av D (OP O rr qs) own) dd qs
  nd : (rr :: qs).Nodup
  no : ∀ x, x = rr ∨ x ∈ qs → ¬ O x ∧ x ≠ D.1 ∧ x ≠ D.2
structure DSt (D : Nat × Nat) (rr : Nat) (h : Hq) (own : Nat → Option Nat) (qs : List Nat) (h' : Hq) (own' : Nat → Option Nat) (qs' : List Nat) : Prop where
  n : h.n ≤ h'.n
  keep : ∀ x o, h.get x = some o → (∀ i, own i ≠ some x) → x ≠ rr → x ∉ qs → x ≠ D.1 → x ≠ D.2 → h'.get x = some o
  own : ∀ i x, own' i = some x → own i = some x ∨ h.n ≤ x
  pr : ∀ x, x ∈ qs' → x ∈ qs ∨ h.n ≤ x
theorem DSt.refl {rr : Nat} {qs : List Nat} : DSt D rr h own qs h own qs := ⟨Nat.le_refl _, fun _ _ e _ _ _ _ _ => e, fun _ _ e => .inl e, fun _ e => .inl e⟩
theorem DSt.trans {rr : Nat} {own2 : Nat → Option Nat} {qs qs1 qs2 : List Nat} (a : DSt D rr h own qs h' own' qs1) (b : DSt D rr h' own' qs1 h2 own2 qs2) : DSt D rr h own qs h2 own2 qs2 :=
  ⟨Nat.le_trans a.n b.n, fun x o e n1 n2 n3 n4 n5 => b.keep x o (a.keep x o e n1 n2 n3 n4 n5) (fun i z => (a.own i x z).elim (n1 i) fun z => absurd (Hq.get_lt e) (Nat.not_lt.mpr z)) n2 (fun z => (a.pr x z).elim n3 fun z => absurd (Hq.get_lt e) (Nat.not_lt.mpr z)) n4 n5,
   fun i x e => (b.own i x e).elim (a.own i x) fun z => .inr (Nat.le_trans a.n z), fun x e => (b.pr x e).elim (a.pr x) fun z => .inr (Nat.le_trans a.n z)⟩
theorem DSt.of {rr : Nat} {qs : List Nat} (a : Stp D h own h' own') : DSt D rr h own qs h' own' qs := ⟨a.n, fun x o e n1 _ _ n4 n5 => a.keep x o e n1 n4 n5, a.own, fun _ e => .inl e⟩
theorem DSt.mv {rr : Nat} {qs qs' : List Nat} (a : DSt D rr h own qs h' own' qs') : Mv h (Av D (OP O rr qs) own) h' (Av D (OP O rr qs') own') := fun x o na e => by
  refine ⟨a.keep x o e (fun i z => na (.inr (.inl ⟨i, z⟩))) (fun z => na (.inl (.inr (.inl z)))) (fun z => na (.inl (.inr (.inr z)))) (fun z => na (.inr (.inr (.inl z)))) (fun z => na (.inr (.inr (.inr z)))), fun z => ?_⟩
  rcases z with (z | z | z) | ⟨i, z⟩ | z
  · exact na (.inl (.inl z))
  · exact na (.inl (.inr (.inl z)))
  · rcases a.pr x z with z | z
    · exact na (.inl (.inr (.inr z)))
    · exact absurd (Hq.get_lt e) (Nat.not_lt.mpr z)
  · rcases a.own i x z with z | z
    · exact na (.inr (.inl ⟨i, z⟩))
    · exact absurd (Hq.get_lt e) (Nat.not_lt.mpr z)
  · exact na (.inr (.inr z))
/-- let the lists be shared -/
theorem Df.freeze {dv rr : Nat} {qs : List Nat} {dd : DD} (f : Df D O dv rr qs h own env0 env s dd) : Fr D h O (setO' own dv none) (env0.set dv (frz dd)) env s := by
  have nA : ∀ x, x = rr ∨ x ∈ qs → ¬ Av D O own x := fun x hx z => by
    obtain ⟨a, b, c⟩ := f.no x hx
    rcases z with z | ⟨i, z⟩ | z | z
    · exact a z
    · exact (f.fr.rg i x z).2.1 (.inr hx)
    · exact b z
    · exact c z
  have m : Mv h (Av D (OP O rr qs) own) h (Av D O own) := Mv.less fun r a => by
    rcases a with a | a
    · exact .inl (.inl a)
    · exact .inr a
  have rv : Rv D.1 h (Av D O own) (.lst (dd.map .lst)) (.ref rr) := .lst (nA rr (.inl rfl)) f.out ((f.inn.mv (fun _ _ _ e => e) m).rv fun q hq => nA q (.inr hq))
  have x := (f.fr.lessO (O2 := O) fun _ z => .inl z).put dv rv
  rw [set_same f.e1] at x
  exact x
def OkD (D : Nat × Nat) (O : Nat → Prop) (dv rr : Nat) (h : Hq) (own : Nat → Option Nat) (qs : List Nat) (t : Rs) (r : RD) : Prop := match r with
  | .ret f env0' dd' s' => t.wp (fun p h' => ∃ own' qs', Df D O dv rr qs' h' own' env0' p.2 s' dd' ∧ DSt D rr h own qs h' own' qs' ∧ RelF D.1 h' (Av D (OP O rr qs') own') f p.1) fun _ _ => False
  | .exc c s' => t.wp (fun _ _ => False) fun c' h' => c' = c ∧ h.n ≤ h'.n ∧ (∀ x o, h.get x = some o → (∀ i, own i ≠ some x) → x ≠ rr → x ∉ qs → x ≠ D.1 → x ≠ D.2 → h'.get x = some o) ∧ Dr D h' s'
  | .fail => True
theorem OkD.trans {dv rr : Nat} {qs qs1 : List Nat} {t : Rs} {r : RD} (st : DSt D rr h own qs h' own' qs1) (x : OkD D O dv rr h' own' qs1 t r) : OkD D O dv rr h own qs t r := by
  cases r with
  | ret v e dd s => exact Res.wp_mono x (fun p h' ⟨o, q, a, b, d⟩ => ⟨o, q, a, st.trans b, d⟩) fun _ _ z => z
  | exc c s =>
    refine Res.wp_mono x (fun _ _ z => z) fun c' h2 ⟨e, n, k, dr⟩ => ⟨e, Nat.le_trans st.n n, fun r o g n1 n2 n3 n4 n5 => k r o (st.keep r o g n1 n2 n3 n4 n5) (fun i z => ?_) n2 (fun z => ?_) n4 n5, dr⟩
    · rcases st.own i r z with z | z
      · exact n1 i z
      · exact absurd (Hq.get_lt g) (Nat.not_lt.mpr z)
    · rcases st.pr r z with z | z
      · exact n3 z
      · exact absurd (Hq.get_lt g) (Nat.not_lt.mpr z)
  | fail => trivial
theorem OkD.bind {dv rr : Nat} {qs : List Nat} {t : Rs} {r : RD} {g : Flow × Env → Hq → Rs} {f : Fl0 → Env0 → DD → Drw → RD} (x : OkD D O dv rr h own qs t r)
    (k : ∀ v p h' own' env0' s' dd' qs', Df D O dv rr qs' h' own' env0' p.2 s' dd' → DSt D rr h own qs h' own' qs' → RelF D.1 h' (Av D (OP O rr qs') own') v p.1 → OkD D O dv rr h' own' qs' (g p h') (f v env0' dd' s')) : OkD D O dv rr h own qs (t.bind g) (r.bind f) := by
  cases r with
  | fail => trivial
  | exc c s =>
    show (t.bind g).wp _ _
    rw [Res.wp_bind]
    exact Res.wp_mono x (fun _ _ z => z.elim) fun _ _ z => z
  | ret v e dd s =>
    have x : t.wp _ _ := x
    cases t with
    | fail => exact x.elim
    | exc c h1 => exact x.elim
    | ret p h1 =>
      obtain ⟨o, q, a, b, d⟩ := x
      exact OkD.trans b (k v p h1 o e s dd q a b d)
end
end MP.Z

namespace MP.Z
section
variable {D : Nat × Nat} {O : Nat → Prop} {h h' h2 : Hq} {own own' : Nat → Option Nat} {env0 env0' : Env0} {env env' : Env} {s s' : Drw} {dv rr : Nat} {qs : List Nat} {dd : DD}
variable {P : Prog} {call : Call} {cs : List VV} {call0 : Call0} {wf : Nat}
/-- the lists of their own are left alone -/
theorem Df.step (f : Df D O dv rr qs h own env0 env s dd) (st : Stp D h own h' own') (fr' : Fr D h' (OP O rr qs) own' env0' env' s') (e0 : env0'[dv]? = some none) (e1 : env'[dv]? = env[dv]?) : Df D O dv rr qs h' own' env0' env' s' dd := by
  have k : ∀ x, x = rr ∨ x ∈ qs → ∀ o, h.get x = some o → h'.get x = some o := fun x hx o g => by
    obtain ⟨a, b, c⟩ := f.no x hx
    exact st.keep x o g (fun i z => (f.fr.rg i x z).2.1 (.inr hx)) b c
  exact ⟨fr', e0, e1.trans f.e1, k rr (.inl rfl) _ f.out, f.inn.mv (fun q hq o g => k q (.inr hq) o g) st.mv, f.nd, f.no⟩
theorem gen_ok (hC : SC D call call0) (hK : ConstsOk P cs) (f : Df D O dv rr qs h own env0 env s dd) (st : S) (hE : ∀ p h', xS P call wf st env h = .ret p h' → p.2[dv]? = env[dv]?) : OkD D O dv rr h own qs (xS P call wf st env h) (genD dv (x0 cs call0 wf st env0 s) dd) := by
  have x := sS (wf := wf) hC hK st f.fr
  cases e : x0 cs call0 wf st env0 s with
  | fail => trivial
  | exc c s1 =>
    rw [e] at x
    exact Res.wp_mono x (fun _ _ z => z) fun c' h' ⟨a, b, k, dr⟩ => ⟨a, b, fun x o g n1 _ _ n4 n5 => k x o g n1 n4 n5, dr⟩
  | ret fl env1 s1 =>
    rw [e] at x
    show OkD D O dv rr h own qs _ (chkD env1[dv]? (.ret fl env1 dd s1))
    cases q : env1[dv]? with
    | none => trivial
    | some w =>
      cases w with
      | some _ => trivial
      | none =>
        show OkD D O dv rr h own qs _ (.ret fl env1 dd s1)
        cases et : xS P call wf st env h with
        | fail => rw [et] at x; exact x.elim
        | exc c h1 => rw [et] at x; exact x.elim
        | ret p h1 =>
          rw [et] at x
          obtain ⟨own1, fr1, st1, rf⟩ := x
          exact ⟨own1, qs, f.step st1 fr1 q (hE p h1 et), DSt.of st1, rf⟩
theorem asg_same {j : Nat} {e : E} (hj : j ≠ dv) (p : Flow × Env) (h' : Hq) (q : xS P call wf (.asg (.name j) e) env h = .ret p h') : p.2[dv]? = env[dv]? := by
  have q : (evE P call e env h).bind (fun v h1 => envF h1 (asgT (.name j) v env)) = .ret p h' := q
  cases ev : evE P call e env h with
  | fail => rw [ev] at q; cases q
  | exc c h1 => rw [ev] at q; cases q
  | ret v h1 =>
    rw [ev] at q
    have q : (Res.ret (Flow.next, env.set j (some v)) h1 : Rs) = .ret p h' := q
    cases q
    exact List.getElem?_set_ne hj
theorem expr_same {e : E} (p : Flow × Env) (h' : Hq) (q : xS P call wf (.expr e) env h = .ret p h') : p.2[dv]? = env[dv]? := by
  have q : (evE P call e env h).bind (fun _ h1 => Res.ret (Flow.next, env) h1) = .ret p h' := q
  cases ev : evE P call e env h with
  | fail => rw [ev] at q; cases q
  | exc c h1 => rw [ev] at q; cases q
  | ret v h1 => rw [ev] at q; cases q; rfl
theorem ret_same {e : E} (p : Flow × Env) (h' : Hq) (q : xS P call wf (.ret e) env h = .ret p h') : p.2[dv]? = env[dv]? := by
  have q : (evE P call e env h).bind (fun v h1 => Res.ret (Flow.ret v, env) h1) = .ret p h' := q
  cases ev : evE P call e env h with
  | fail => rw [ev] at q; cases q
  | exc c h1 => rw [ev] at q; cases q
  | ret v h1 => rw [ev] at q; cases q; rfl
theorem Df.rr_lt (f : Df D O dv rr qs h own env0 env s dd) : rr < h.n := Hq.get_lt f.out
theorem DI.lt {d : Nat} {A : Nat → Prop} (r : DI d h A dd qs) : ∀ q ∈ qs, q < h.n := by
  induction r with
  | nil => intro q hq; cases hq
  | cons g _ _ ih =>
    intro q hq
    rcases List.mem_cons.mp hq with rfl | hq
    · exact Hq.get_lt g
    · exact ih q hq
theorem new_ok (f : Df D O dv rr qs h own env0 env s dd) : OkD D O dv rr h own qs (xS P call wf (.expr (.mt .append (.var dv) [.lst []])) env h) (newD env0 dd s) := by
  unfold newD
  by_cases hl : le' (dd.length + 1) SL = true
  · rw [if_pos hl]
    have hlq : le' ((qs.map PV.ref).length + 1) SL = true := by rw [List.length_map, ← f.inn.length]; exact hl
    have g1 : getL h rr = some (qs.map .ref) := getL_lst f.out
    have g2 : (h.push (.lst [])).get rr = some (.lst (qs.map .ref)) := get_old f.out
    have e : xS P call wf (.expr (.mt .append (.var dv) [.lst []])) env h = .ret (.next, env) ((h.push (.lst [])).set rr (.lst (qs.map .ref ++ [.ref h.n]))) := by
      show (((varF env[dv]? h).bind fun v h1 => mtF .append h1 v ((evEs P call [.lst []] env h1).bind fun vs h2 => mtS .append h2 v vs)).bind fun _ h1 => Res.ret (Flow.next, env) h1) = _
      rw [f.e1]
      show ((if (getL h rr).isSome = true then (((okIf (le' 0 SL) (newLst h [])).bind fun v h1 => (Res.ret [] h1).bind fun vs h2 => Res.ret (v :: vs) h2).bind fun vs h2 => mtS .append h2 (.ref rr) vs) else .fail).bind fun _ h1 => Res.ret (Flow.next, env) h1) = _
      rw [g1]
      show (mtS .append (h.push (.lst [])) (.ref rr) [.ref h.n]).bind _ = _
      unfold mtS
      simp only [g2]
      unfold okIf
      rw [if_pos hlq]
      rfl
    rw [e]
    have hr := f.rr_lt
    obtain ⟨_, r1, r2⟩ := f.no rr (.inl rfl)
    have hrn : rr ≠ h.n := Nat.ne_of_lt hr
    have hq : ∀ q ∈ qs, q < h.n := f.inn.lt
    obtain ⟨nd1, nd2⟩ := List.nodup_cons.mp f.nd
    have fr1 : Fr D (h.push (.lst [])) (OP O rr (qs ++ [h.n])) own env0 env s := f.fr.pushO fun x hx => by
      rcases hx with hx | hx | hx
      · exact .inl (.inl hx)
      · exact .inl (.inr (.inl hx))
      · rcases List.mem_append.mp hx with hx | hx
        · exact .inl (.inr (.inr hx))
        · exact .inr (List.mem_singleton.mp hx)
    have fr2 := fr1.setP (x := rr) (o := .lst (qs.map .ref ++ [.ref h.n])) (.inr (.inl rfl)) r1 r2
    have st : DSt D rr h own qs ((h.push (.lst [])).set rr (.lst (qs.map .ref ++ [.ref h.n]))) own (qs ++ [h.n]) := by
      refine ⟨Nat.le_succ _, fun x o g n1 n2 n3 n4 n5 => ?_, fun i x z => .inl z, fun x hx => ?_⟩
      · rw [Hq.get_set _ _ _ _ (Nat.lt_succ_of_lt hr), if_neg n2]; exact get_old g
      · rcases List.mem_append.mp hx with hx | hx
        · exact .inl hx
        · rw [List.mem_singleton.mp hx]; exact .inr (Nat.le_refl _)
    refine ⟨own, qs ++ [h.n], ⟨fr2, f.e0, f.e1, ?_, ?_, ?_, ?_⟩, st, .next⟩
    · rw [Hq.get_set _ _ _ _ (Nat.lt_succ_of_lt hr), if_pos rfl, List.map_append]
      rfl
    · refine (f.inn.mv (fun q hq' o g => ?_) st.mv).append (.cons (ys := []) ?_ .nil .nil)
      · rw [Hq.get_set _ _ _ _ (Nat.lt_succ_of_lt hr), if_neg (fun z => nd1 (by rw [← z]; exact hq'))]; exact get_old g
      · rw [Hq.get_set _ _ _ _ (Nat.lt_succ_of_lt hr), if_neg hrn.symm]; exact get_new
    · refine List.nodup_cons.mpr ⟨fun z => ?_, List.nodup_append.mpr ⟨nd2, List.nodup_cons.mpr ⟨List.not_mem_nil, List.nodup_nil⟩, fun a ha b hb z => ?_⟩⟩
      · rcases List.mem_append.mp z with z | z
        · exact nd1 z
        · exact hrn (List.mem_singleton.mp z)
      · rw [List.mem_singleton.mp hb] at z
        exact absurd (hq a ha) (by rw [z]; exact Nat.lt_irrefl _)
    · intro x hx
      rcases hx with hx | hx
      · exact f.no x (.inl hx)
      · rcases List.mem_append.mp hx with hx | hx
        · exact f.no x (.inr hx)
        · rw [List.mem_singleton.mp hx]
          exact ⟨fun z => absurd (f.fr.ob _ (.inl z)) (Nat.lt_irrefl _), fun z => absurd (Hq.get_lt f.fr.dr.a) (by rw [← z]; exact Nat.lt_irrefl _), fun z => absurd (Hq.get_lt f.fr.dr.b) (by rw [← z]; exact Nat.lt_irrefl _)⟩
  · rw [if_neg hl]
    trivial
theorem last_ref {qs' : List Nat} {q : Nat} : at' ((qs' ++ [q]).map PV.ref) (-1) = some (.ref q) := by
  unfold at'
  rw [if_neg (by decide), if_pos (by rw [List.length_map, List.length_append, List.length_singleton]; omega)]
  have : ((-1 : Int) + (((qs' ++ [q]).map PV.ref).length : Nat)).toNat = qs'.length := by rw [List.length_map, List.length_append, List.length_singleton]; omega
  rw [this, List.getElem?_map, List.getElem?_append_right (Nat.le_refl _), Nat.sub_self]
  rfl
theorem last_ok (hC : SC D call call0) (hK : ConstsOk P cs) (f : Df D O dv rr qs h own env0 env s dd) (a : E) : OkD D O dv rr h own qs (xS P call wf (.expr (.mt .append (.idx (.var dv) (.neg (.int 1))) [a])) env h) (lastD dv (ev cs call0 a env0 s) dd) := by
  have x := sE hC hK a f.fr
  cases e : ev cs call0 a env0 s with
  | fail => trivial
  | exc c s1 => trivial
  | ret v env1 s1 =>
    rw [e] at x
    show OkD D O dv rr h own qs _ (chkD env1[dv]? (lastL dd.getLast? v env1 dd s1))
    cases q0 : env1[dv]? with
    | none => trivial
    | some w =>
      cases w with
      | some _ => trivial
      | none =>
        show OkD D O dv rr h own qs _ (lastL dd.getLast? v env1 dd s1)
        cases hdd : dd.getLast? with
        | none => trivial
        | some l =>
          by_cases hl : le' (l.length + 1) SL = true
          · show OkD D O dv rr h own qs _ (if le' (l.length + 1) SL = true then _ else _)
            rw [if_pos hl]
            obtain ⟨dd', qs', q, ys, rfl, rfl, gq, rl, r'⟩ := f.inn.split hdd
            cases et : evE P call a env h with
            | fail => rw [et] at x; exact x.elim
            | exc c h1 => rw [et] at x; exact x.elim
            | ret p h1 =>
              rw [et] at x
              obtain ⟨own1, fr1, st1, _, rv, _⟩ := x
              have f1 := f.step st1 fr1 q0 rfl
              obtain ⟨dd2, qs2, q2, ys2, e1, e2, gq2, rl2, r2⟩ := f1.inn.split (l := l) (by rw [List.getLast?_append]; rfl)
              obtain ⟨e2a, e2b⟩ := List.append_inj_right' e2 rfl, List.append_inj_left' e2 rfl
              cases e2a
              subst e2b
              have e1b := List.append_inj_left' e1 rfl
              subst e1b
              have hly : le' (ys2.length + 1) SL = true := by rw [← rl2.length]; exact hl
              have g1 : getL h1 q = some ys2 := getL_lst gq2
              have er : xS P call wf (.expr (.mt .append (.idx (.var dv) (.neg (.int 1))) [a])) env h = .ret (.next, env) (h1.set q (.lst (ys2 ++ [p]))) := by
                show ((((varF env[dv]? h).bind fun v h1 => idxS h1 v (.int (-1))).bind fun v h1 => mtF .append h1 v ((evEs P call [a] env h1).bind fun vs h2 => mtS .append h2 v vs)).bind fun _ h1 => Res.ret (Flow.next, env) h1) = _
                rw [f.e1]
                show (((idxS h (.ref rr) (.int (-1))).bind fun v h1 => mtF .append h1 v ((evEs P call [a] env h1).bind fun vs h2 => mtS .append h2 v vs)).bind fun _ h1 => Res.ret (Flow.next, env) h1) = _
                unfold idxS
                simp only [f.out, last_ref]
                show ((if (getL h q).isSome = true then (((evE P call a env h).bind fun v h1 => (Res.ret [] h1).bind fun vs h2 => Res.ret (v :: vs) h2).bind fun vs h2 => mtS .append h2 (.ref q) vs) else .fail).bind fun _ h1 => Res.ret (Flow.next, env) h1) = _
                rw [getL_lst gq, et]
                show (mtS .append h1 (.ref q) [p]).bind _ = _
                unfold mtS
                simp only [gq2]
                unfold okIf
                rw [if_pos hly]
                rfl
              rw [er]
              obtain ⟨n0, n1, n2⟩ := f1.no q (.inr (by simp))
              have hq := Hq.get_lt gq2
              obtain ⟨nd1, nd2⟩ := List.nodup_cons.mp f1.nd
              have hqr : rr ≠ q := fun z => nd1 (by rw [z]; simp)
              obtain ⟨_, _, nd3⟩ := List.nodup_append.mp nd2
              have fr2 := f1.fr.setP (x := q) (o := .lst (ys2 ++ [p])) (.inr (.inr (by simp))) n1 n2
              have m2 : Mv h1 (Av D (OP O rr (qs' ++ [q])) own1) (h1.set q (.lst (ys2 ++ [p]))) (Av D (OP O rr (qs' ++ [q])) own1) := fun r u na e => ⟨by rw [Hq.get_set h1 q r _ hq, if_neg (fun z => na (.inl (.inr (.inr (by rw [z]; simp)))))]; exact e, na⟩
              have st2 : DSt D rr h1 own1 (qs' ++ [q]) (h1.set q (.lst (ys2 ++ [p]))) own1 (qs' ++ [q]) := ⟨Nat.le_refl _, fun x o g _ _ n3 _ _ => by rw [Hq.get_set h1 q x _ hq, if_neg (fun z => n3 (by rw [z]; simp))]; exact g, fun i x z => .inl z, fun x z => .inl z⟩
              refine ⟨own1, qs' ++ [q], ⟨fr2, q0, f1.e1, ?_, ?_, f1.nd, f1.no⟩, (DSt.of st1).trans st2, .next⟩
              · rw [Hq.get_set h1 q _ _ hq, if_neg hqr]; exact f1.out
              · rw [List.dropLast_concat]
                refine (r2.mv (fun q' hq' o g => ?_) m2).append (.cons (ys := ys2 ++ [p]) ?_ ((rl2.mv m2).append (.cons (rv.mv m2) .nil)) .nil)
                · rw [Hq.get_set h1 q _ _ hq, if_neg (fun z => nd3 q' hq' q (by simp) z)]; exact g
                · rw [Hq.get_set h1 q _ _ hq, if_pos rfl]
          · show OkD D O dv rr h own qs _ (if le' (l.length + 1) SL = true then _ else _)
            rw [if_neg hl]
            trivial
end
end MP.Z

namespace MP.Z
section
variable {D : Nat × Nat} {O : Nat → Prop} {h h' h2 : Hq} {own own' : Nat → Option Nat} {env0 env0' : Env0} {env env' : Env} {s s' : Drw} {dv rr : Nat} {qs : List Nat} {dd : DD}
variable {P : Prog} {call : Call} {cs : List VV} {call0 : Call0} {wf : Nat}
theorem pop_ok (hC : SC D call call0) (f : Df D O dv rr qs h own env0 env s dd) (j fn : Nat) (hj : j ≠ dv) : OkD D O dv rr h own qs (xS P call wf (.asg (.name j) (.call fn [.mt .pop (.var dv) []])) env h) (popD call0 j fn env0 dd s) := by
  unfold popD
  cases hdd : dd.getLast? with
  | none => trivial
  | some l =>
    obtain ⟨dd', qs', q, ys, rfl, rfl, gq, rl, r'⟩ := f.inn.split hdd
    obtain ⟨n0, n1, n2⟩ := f.no q (.inr (by simp))
    obtain ⟨_, r1, r2⟩ := f.no rr (.inl rfl)
    have hr := f.rr_lt
    obtain ⟨nd1, nd2⟩ := List.nodup_cons.mp f.nd
    have hqr : rr ≠ q := fun z => nd1 (by rw [z]; simp)
    obtain ⟨nd4, _, nd3⟩ := List.nodup_append.mp nd2
    have gl : ((qs' ++ [q]).map PV.ref).getLast? = some (.ref q) := by rw [List.map_append, List.getLast?_append]; rfl
    have gd : ((qs' ++ [q]).map PV.ref).dropLast = qs'.map .ref := by rw [List.map_append]; exact List.dropLast_concat
    have g1 : getL h rr = some ((qs' ++ [q]).map .ref) := getL_lst f.out
    have er : xS P call wf (.asg (.name j) (.call fn [.mt .pop (.var dv) []])) env h = (call fn [.ref q] (h.set rr (.lst (qs'.map .ref)))).bind fun v h1 => envF h1 (asgT (.name j) v env) := by
      show ((((((varF env[dv]? h).bind fun v h1 => mtF .pop h1 v ((evEs P call [] env h1).bind fun vs h2 => mtS .pop h2 v vs)).bind fun v h1 => (Res.ret [] h1).bind fun vs h2 => Res.ret (v :: vs) h2).bind fun vs h1 => call fn vs h1)).bind fun v h1 => envF h1 (asgT (.name j) v env)) = _
      rw [f.e1]
      show ((((if (getL h rr).isSome = true then mtS .pop h (.ref rr) [] else .fail).bind fun v h1 => (Res.ret [] h1).bind fun vs h2 => Res.ret (v :: vs) h2).bind fun vs h1 => call fn vs h1).bind fun v h1 => envF h1 (asgT (.name j) v env)) = _
      rw [g1]
      show ((((mtS .pop h (.ref rr) []).bind fun v h1 => (Res.ret [] h1).bind fun vs h2 => Res.ret (v :: vs) h2).bind fun vs h1 => call fn vs h1).bind fun v h1 => envF h1 (asgT (.name j) v env)) = _
      unfold mtS
      simp only [f.out, gl, gd]
      rfl
    rw [er]
    show OkD D O dv rr h own _ _ (popR j (call0 fn [.lst l] s) env0 (dd' ++ [l]))
    have lo : ∀ x, OP O rr qs' x → OP O rr (qs' ++ [q]) x := fun x hx => by
      rcases hx with hx | hx | hx
      · exact .inl hx
      · exact .inr (.inl hx)
      · exact .inr (.inr (by simp [hx]))
    have fr1 := (f.fr.lessO lo).setP (x := rr) (o := .lst (qs'.map .ref)) (.inr (.inl rfl)) r1 r2
    have m1 : Mv h (Av D (OP O rr (qs' ++ [q])) own) (h.set rr (.lst (qs'.map .ref))) (Av D (OP O rr qs') own) := fun r u na e => ⟨by rw [Hq.get_set h rr r _ hr, if_neg (fun z => na (.inl (.inr (.inl z))))]; exact e, fun a => by
      rcases a with a | a
      · exact na (.inl (lo r a))
      · exact na (.inr a)⟩
    have gq1 : (h.set rr (.lst (qs'.map .ref))).get q = some (.lst ys) := by rw [Hq.get_set h rr q _ hr, if_neg hqr.symm]; exact gq
    have nq : ¬ Av D (OP O rr qs') own q := fun a => by
      rcases a with (a | a | a) | ⟨i, a⟩ | a | a
      · exact n0 a
      · exact hqr a.symm
      · exact nd3 q a q (by simp) rfl
      · exact (f.fr.rg i q a).2.1 (.inr (.inr (by simp)))
      · exact n1 a
      · exact n2 a
    have sc := hC fn [.lst l] [.ref q] (h.set rr (.lst (qs'.map .ref))) s (Av D (OP O rr qs') own) (.inr (.inr (.inl rfl))) (.inr (.inr (.inr rfl))) fr1.hA (.cons (.lst nq gq1 (rl.mv m1)) .nil) fr1.dr
    have st1 : DSt D rr h own (qs' ++ [q]) (h.set rr (.lst (qs'.map .ref))) own qs' := ⟨Nat.le_refl _, fun x o g _ n2 _ _ _ => by rw [Hq.get_set h rr x _ hr, if_neg n2]; exact g, fun i x z => .inl z, fun x z => .inl (by simp [z])⟩
    cases ec : call0 fn [.lst l] s with
    | fail => trivial
    | exc c s1 =>
      rw [ec] at sc
      show Res.wp _ _ _
      rw [Res.wp_bind]
      refine Res.wp_mono sc (fun _ _ z => z.elim) fun c' h2 ⟨e, x, dr⟩ => ⟨e, x.1, fun y o g n1' n2' n3' n4' n5' => x.2 y o (st1.keep y o g n1' n2' n3' n4' n5') n4' n5', dr⟩
    | ret v s1 =>
      rw [ec] at sc
      show Res.wp _ _ _
      rw [Res.wp_bind]
      refine Res.wp_mono sc (fun p h2 ⟨x, dr, rv⟩ => ?_) fun _ _ z => z.elim
      have fr2 := fr1.extD x dr
      have st2 : Stp D (h.set rr (.lst (qs'.map .ref))) own h2 own := x.stp fun _ _ e => e
      have fr3 := fr2.put j rv
      have m3 : Mv h2 (Av D (OP O rr qs') own) h2 (Av D (OP O rr qs') (setO' own j none)) := Mv.less fun r a => a.less fun j r e => (setO_none e).1
      show ∃ own' qs'', _
      refine ⟨setO' own j none, qs', ⟨fr3, ?_, ?_, ?_, ?_, ?_, ?_⟩, st1.trans ⟨st2.n, fun x o g n1 n2 n3 n4 n5 => st2.keep x o g n1 n4 n5, fun i x e => .inl (setO_none e).1, fun _ z => .inl z⟩, .next⟩
      · rw [List.getElem?_set_ne hj]; exact f.e0
      · rw [List.getElem?_set_ne hj]; exact f.e1
      · exact x.2 rr _ (by rw [Hq.get_set h rr rr _ hr, if_pos rfl]) r1 r2
      · rw [List.dropLast_concat]
        refine ((r'.mv (fun q' hq' o g => ?_) m1).mv (fun q' hq' o g => ?_) st2.mv).mv (fun _ _ _ e => e) m3
        · rw [Hq.get_set h rr q' _ hr, if_neg (fun z => nd1 (by rw [← z]; simp [hq']))]; exact g
        · obtain ⟨_, a, b⟩ := f.no q' (.inr (by simp [hq']))
          exact x.2 q' o g a b
      · exact List.nodup_cons.mpr ⟨fun z => nd1 (by simp [z]), nd4⟩
      · intro x hx
        exact f.no x (hx.imp id fun z => by simp [z])
theorem ite_ok (hC : SC D call call0) (hK : ConstsOk P cs) (f : Df D O dv rr qs h own env0 env s dd) (c : E) (hc : calmE c = true) {fa fb : Hq → Rs} {ga gb : Drw → RD}
    (ka : ∀ {h : Hq} {s : Drw}, Df D O dv rr qs h own env0 env s dd → OkD D O dv rr h own qs (fa h) (ga s)) (kb : ∀ {h : Hq} {s : Drw}, Df D O dv rr qs h own env0 env s dd → OkD D O dv rr h own qs (fb h) (gb s)) :
    OkD D O dv rr h own qs ((evE P call c env h).bind fun v h1 => ifS v h1 fa fb) (iteD (ev cs call0 c (env0.set dv (frz dd)) s) ga gb) := by
  have x := sE hC hK c f.freeze
  cases e : ev cs call0 c (env0.set dv (frz dd)) s with
  | fail => trivial
  | exc k s1 =>
    rw [e] at x
    show Res.wp _ _ _
    rw [Res.wp_bind]
    exact Res.wp_mono x (fun _ _ z => z.elim) fun c' h' ⟨a, b, kp, dr⟩ => ⟨a, b, fun x o g n1 _ _ n4 n5 => kp x o g (fun i z => n1 i (setO_none z).1) n4 n5, dr⟩
  | ret v env1 s1 =>
    cases v with
    | bl b =>
      rw [e] at x
      cases et : evE P call c env h with
      | fail => rw [et] at x; exact x.elim
      | exc c h1 => rw [et] at x; exact x.elim
      | ret p h1 =>
        rw [et] at x
        obtain ⟨own1, fr1, st1, cm, rv, _⟩ := x
        have cm := cm hc
        have st : Stp D h own h1 own := cm.ext.stp fun _ _ e => e
        have f1 := f.step st (f.fr.extD cm.ext fr1.dr) f.e0 rfl
        cases rv
        refine OkD.trans (DSt.of st) ?_
        cases b with
        | true => exact ka f1
        | false => exact kb f1
    | _ => trivial
theorem forD_ok {j : Nat} {body : Env → Hq → Rs} {body0 : Env0 → DD → Drw → RD} {xs : List VV} {src : Src} (hj : j ≠ dv)
    (hb : ∀ {env : Env} {h : Hq} {own : Nat → Option Nat} {env0 : Env0} {s : Drw} {qs : List Nat} {dd : DD}, Df D O dv rr qs h own env0 env s dd → OkD D O dv rr h own qs (body env h) (body0 env0 dd s)) :
    ∀ (vs : List VV) (i : Nat) {env : Env} {h : Hq} {own : Nat → Option Nat} {env0 : Env0} {s : Drw} {qs : List Nat} {dd : DD}, xs.drop i = vs → i + vs.length = xs.length → Df D O dv rr qs h own env0 env s dd → SrcR D.1 h (Av D (OP O rr qs) own) xs src →
      OkD D O dv rr h own qs (forLoop src (.name j) body xs.length vs.length env h) (forD j body0 vs env0 dd s)
  | [], i, env, h, own, env0, s, qs, dd, hx, hi, f, sr => by
    show OkD D O dv rr h own qs (if src.done h xs.length = true then .ret (.next, env) h else .fail) _
    rw [if_pos sr.done]
    exact ⟨own, qs, f, DSt.refl, .next⟩
  | v :: vs, i, env, h, own, env0, s, qs, dd, hx, hi, f, sr => by
    obtain ⟨xe, xd⟩ := drop_cons hx
    obtain ⟨p, pe, pr⟩ := sr.at xe
    rw [List.length_cons] at hi ⊢
    have fr1 := f.fr.put j pr
    have st0 : Stp D h own h (setO' own j none) := ⟨Nat.le_refl _, fun _ _ e _ _ _ => e, fun i r e => .inl (setO_none e).1⟩
    have f1 := f.step st0 fr1 (by rw [List.getElem?_set_ne hj]; exact f.e0) (by rw [List.getElem?_set_ne hj])
    unfold forLoop
    rw [show xs.length - (vs.length + 1) = i by omega]
    simp only [pe, asgT]
    refine OkD.trans (DSt.of st0) (OkD.bind (hb f1) fun fl q h2 own2 env2 s2 dd2 qs2 f2 st2 rf => ?_)
    obtain ⟨f', env2'⟩ := q
    have sr1 := sr.mv st0.mv
    cases rf with
    | next => exact forD_ok hj hb vs (i + 1) xd (by omega) f2 (sr1.mv st2.mv)
    | cont => exact forD_ok hj hb vs (i + 1) xd (by omega) f2 (sr1.mv st2.mv)
    | ret r => exact ⟨own2, qs2, f2, DSt.refl, .ret r⟩
theorem oneD_ok (hC : SC D call call0) (hK : ConstsOk P cs) (f : Df D O dv rr qs h own env0 env s dd) (e : E) : OkD D O dv rr h own qs (xS P call wf (.expr e) env h) (oneD cs call0 wf dv e env0 dd s) := by
  unfold oneD
  split
  · split
    · rename_i hi
      subst hi
      split
      · exact new_ok f
      · trivial
    · exact gen_ok hC hK f _ expr_same
  · split
    · rename_i hi
      subst hi
      exact last_ok hC hK f _
    · trivial
  · trivial
theorem asgD_ok (hC : SC D call call0) (hK : ConstsOk P cs) (f : Df D O dv rr qs h own env0 env s dd) (j : Nat) (hj : j ≠ dv) (e : E) : OkD D O dv rr h own qs (xS P call wf (.asg (.name j) e) env h) (asgD cs call0 wf dv j e env0 dd s) := by
  unfold asgD
  split
  · split
    · rename_i hi
      subst hi
      exact pop_ok hC f j _ hj
    · trivial
  · exact gen_ok hC hK f _ (asg_same hj)
mutual
theorem xD_ok (hC : SC D call call0) (hK : ConstsOk P cs) : ∀ (t : S) {env : Env} {h : Hq} {own : Nat → Option Nat} {env0 : Env0} {s : Drw} {qs : List Nat} {dd : DD}, Df D O dv rr qs h own env0 env s dd → OkD D O dv rr h own qs (xS P call wf t env h) (xD cs call0 wf dv t env0 dd s)
  | .expr e, _, _, _, _, _, _, _, f => by unfold xD; exact oneD_ok hC hK f e
  | .asg (.name j) e, _, _, _, _, _, _, _, f => by
    unfold xD
    split
    · trivial
    · rename_i hj; exact asgD_ok hC hK f j hj e
  | .ret e, _, _, _, _, _, _, _, f => by unfold xD; exact gen_ok hC hK f _ ret_same
  | .ife c a b, _, _, _, _, _, _, _, f => by
    unfold xD
    split
    · rename_i hc
      exact ite_ok hC hK f c hc (fun f => xDs_ok hC hK a f) (fun f => xDs_ok hC hK b f)
    · trivial
  | .asg (.tup _) _, _, _, _, _, _, _, _, _ => trivial
  | .par _ _, _, _, _, _, _, _, _, _ => trivial
  | .seta _ _ _, _, _, _, _, _, _, _, _ => trivial
  | .seti _ _ _, _, _, _, _, _, _, _, _ => trivial
  | .aug _ _ _, _, _, _, _, _, _, _, _ => trivial
  | .retN, _, _, _, _, _, _, _, _ => trivial
  | .for _ _ _, _, _, _, _, _, _, _, _ => trivial
  | .while _ _, _, _, _, _, _, _, _, _ => trivial
  | .raise _, _, _, _, _, _, _, _, _ => trivial
  | .pass, _, _, _, _, _, _, _, _ => trivial
  | .cont, _, _, _, _, _, _, _, _ => trivial
  | .try_ _ _ _ _ _, _, _, _, _, _, _, _, _ => trivial
theorem xDs_ok (hC : SC D call call0) (hK : ConstsOk P cs) : ∀ (ts : List S) {env : Env} {h : Hq} {own : Nat → Option Nat} {env0 : Env0} {s : Drw} {qs : List Nat} {dd : DD}, Df D O dv rr qs h own env0 env s dd → OkD D O dv rr h own qs (xSs P call wf ts env h) (xDs cs call0 wf dv ts env0 dd s)
  | [], env, h, own, env0, s, qs, dd, f => ⟨own, qs, f, DSt.refl, .next⟩
  | t :: ts, env, h, own, env0, s, qs, dd, f => by
    refine OkD.bind (xD_ok hC hK t f) fun fl p h2 own2 env2 s2 dd2 qs2 f2 st2 rf => ?_
    obtain ⟨f', env2'⟩ := p
    cases rf with
    | next => exact xDs_ok hC hK ts f2
    | cont => exact ⟨own2, qs2, f2, DSt.refl, .cont⟩
    | ret r => exact ⟨own2, qs2, f2, DSt.refl, .ret r⟩
end
end
end MP.Z

namespace MP.Z
/-- a def with a list of lists of its own, dv: ahead of it, a second name that begins with it ([] or {}), the loop, behind it -/
structure DSpec where
  np : Nat
  nl : Nat
  dv : Nat
  pre : List S
  two : Option (Nat × Bool)
  j : Nat
  it : E
  body : List S
  post : List S
def twoE (b : Bool) : E := if b = true then .dct false [] [] else .lst []
def DSpec.init (p : DSpec) : S := match p.two with
  | none => .asg (.name p.dv) (.lst [.lst []])
  | some (c, b) => .par [p.dv, c] [.lst [.lst []], twoE b]
def DSpec.all (p : DSpec) : List S := p.pre ++ p.init :: .for (.name p.j) p.it p.body :: p.post
section
variable (cs : List VV) (call : Call0) (wf : Nat)
def twoD (p : DSpec) (env : Env0) (s : Drw) : RD := match p.two with
  | none => .ret .next (env.set p.dv none) [[]] s
  | some (c, b) => if c = p.dv then .fail else genD p.dv (x0 cs call wf (.asg (.name c) (twoE b)) (env.set p.dv none) s) [[]]
def bD (dv : Nat) (body : List S) (env : Env0) (dd : DD) (s : Drw) : RD := xDs cs call wf dv body env dd s
def goD (p : DSpec) (r : R0 (List VV)) (dd : DD) : RD := match r with
  | .ret xs env s => chkD env[p.dv]? (forD p.j (bD cs call wf p.dv p.body) xs env dd s)
  | .exc c s => .exc c s
  | .fail => .fail
def loopD (p : DSpec) (env : Env0) (dd : DD) (s : Drw) : RD := if p.j = p.dv then .fail else goD cs call wf p (evI cs call p.it env s) dd
def midD (p : DSpec) (f : Fl0) (env : Env0) (dd : DD) (s : Drw) : RD := match f with
  | .next => loopD cs call wf p env dd s
  | f => .ret f env dd s
def thaw (dv : Nat) (r : RD) : RS := match r with
  | .ret .next env dd s => .ret .next (env.set dv (frz dd)) s
  | .ret (.ret v) env dd s => .ret (.ret v) (env.set dv (frz dd)) s
  | .ret .cont _ _ _ => .fail
  | .exc c s => .exc c s
  | .fail => .fail
def postD (p : DSpec) (f : Fl0) (env : Env0) (s : Drw) : RS := match f with
  | .next => x0s cs call wf p.post env s
  | f => .ret f env s
def restD (p : DSpec) (f : Fl0) (env : Env0) (s : Drw) : RS := match f with
  | .next => if Nat.blt p.dv env.length = true then (thaw p.dv ((twoD cs call wf p env s).bind (midD cs call wf p))).bind (postD cs call wf p) else .fail
  | f => .ret f env s
def deepX (p : DSpec) (env : Env0) (s : Drw) : RS := (x0s cs call wf p.pre env s).bind (restD cs call wf p)
end
section
variable {D : Nat × Nat} {O : Nat → Prop} {h h' h2 : Hq} {own own' : Nat → Option Nat} {env0 env0' : Env0} {env env' : Env} {s s' : Drw} {dv rr : Nat} {qs : List Nat} {dd : DD}
variable {P : Prog} {call : Call} {cs : List VV} {call0 : Call0} {wf : Nat}
/-- a slot is forgotten -/
theorem Fr.drop (fr : Fr D h O own env0 env s) (i : Nat) (w : Option PV) : Fr D h O (setO' own i none) (env0.set i none) (env.set i w) s := by
  have m : Mv h (Av D O own) h (Av D O (setO' own i none)) := Mv.less fun r a => a.less fun j r e => (setO_none e).1
  refine ⟨by rw [List.length_set, List.length_set]; exact fr.len, fun j w e => ?_, fun j w e => ?_, fun a b r e1 e2 => fr.inj a b r (setO_none e1).1 (setO_none e2).1, fun j r e => fr.rg j r (setO_none e).1, fr.ob, fr.dr⟩
  · by_cases hj : i = j
    · subst hj
      have hl : i < env0.length := by have := (List.getElem?_eq_some_iff.mp e).1; simpa using this
      rw [List.getElem?_set_self hl] at e
      cases e
    · rw [List.getElem?_set_ne hj] at e
      obtain ⟨q, h1, h2⟩ := fr.sh j w e
      exact ⟨q, by rw [List.getElem?_set_ne hj]; exact h1, h2.mv m⟩
  · by_cases hj : i = j
    · subst hj
      have hl : i < env0.length := by have := (List.getElem?_eq_some_iff.mp e).1; simpa using this
      rw [List.getElem?_set_self hl] at e
      cases e
    · rw [List.getElem?_set_ne hj] at e
      obtain ⟨q, h1, h2, h3⟩ := fr.ow j w e
      exact ⟨q, by rw [setO_ne own none (fun z => hj z.symm)]; exact h1, by rw [List.getElem?_set_ne hj]; exact h2, h3.mv m fun _ g => g⟩
def initH (h : Hq) : Hq := (h.push (.lst [])).push (.lst [.ref h.n])
theorem init_ok (fr : Fr D h O own env0 env s) (hl : dv < env0.length) :
    xS P call wf (.asg (.name dv) (.lst [.lst []])) env h = .ret (.next, env.set dv (some (.ref (h.n + 1)))) (initH h) ∧ Df D O dv (h.n + 1) [h.n] (initH h) (setO' own dv none) (env0.set dv none) (env.set dv (some (.ref (h.n + 1)))) s [[]] := by
  refine ⟨rfl, ?_⟩
  have fr1 : Fr D (h.push (.lst [])) (fun x => O x ∨ x = h.n) own env0 env s := fr.pushO fun x hx => hx
  have fr2 : Fr D (initH h) (OP O (h.n + 1) [h.n]) own env0 env s := fr1.pushO fun x hx => by
    rcases hx with hx | hx | hx
    · exact .inl (.inl hx)
    · exact .inr hx
    · exact .inl (.inr (List.mem_singleton.mp hx))
  have gq : (initH h).get h.n = some (.lst []) := get_old get_new
  have gr : (initH h).get (h.n + 1) = some (.lst [.ref h.n]) := get_new (h := h.push (.lst []))
  have ns : ∀ x, h.n ≤ x → ¬ O x ∧ x ≠ D.1 ∧ x ≠ D.2 := fun x hx => ⟨fun z => absurd (fr.ob x z) (Nat.not_lt.mpr hx), fun z => absurd (Hq.get_lt fr.dr.a) (by rw [← z]; exact Nat.not_lt.mpr hx), fun z => absurd (Hq.get_lt fr.dr.b) (by rw [← z]; exact Nat.not_lt.mpr hx)⟩
  refine ⟨fr2.drop dv _, ?_, ?_, gr, .cons gq .nil .nil, ?_, fun x hx => ?_⟩
  · rw [List.getElem?_set_self hl]
  · rw [List.getElem?_set_self (by rw [← fr.len]; exact hl)]
  · exact List.nodup_cons.mpr ⟨fun z => absurd (List.mem_singleton.mp z) (Nat.succ_ne_self _), List.nodup_cons.mpr ⟨List.not_mem_nil, List.nodup_nil⟩⟩
  · rcases hx with hx | hx
    · exact ns x (by omega)
    · exact ns x (by rw [List.mem_singleton.mp hx]; exact Nat.le_refl _)
theorem xSs_append (a b : List S) : ∀ (env : Env) (h : Hq), xSs P call wf (a ++ b) env h = (xSs P call wf a env h).bind fun p h1 => seqF p h1 fun env h => xSs P call wf b env h := by
  induction a with
  | nil => intro env h; rfl
  | cons t ts ih =>
    intro env h
    show (xS P call wf t env h).bind _ = ((xS P call wf t env h).bind _).bind _
    cases xS P call wf t env h with
    | fail => rfl
    | exc c h1 => rfl
    | ret p h1 =>
      obtain ⟨f, env1⟩ := p
      cases f with
      | next => exact ih env1 h1
      | ret v => rfl
      | cont => rfl
theorem two_run (c : Nat) (b : Bool) (env : Env) (h : Hq) : xS P call wf (.par [dv, c] [.lst [.lst []], twoE b]) env h = (xS P call wf (.asg (.name dv) (.lst [.lst []])) env h).bind fun p h1 => xS P call wf (.asg (.name c) (twoE b)) p.2 h1 := by
  cases b <;> rfl
theorem loopD_ok (hC : SC D call call0) (hK : ConstsOk P cs) (p : DSpec) (f : Df D O p.dv rr qs h own env0 env s dd) : OkD D O p.dv rr h own qs (xS P call wf (.for (.name p.j) p.it p.body) env h) (loopD cs call0 wf p env0 dd s) := by
  unfold loopD
  split
  · trivial
  · rename_i hj
    have x := sI hC hK p.it f.fr
    cases e : evI cs call0 p.it env0 s with
    | fail => trivial
    | exc c s1 =>
      rw [e] at x
      show Res.wp _ _ _
      show Res.wp ((evSrc P call p.it env h).bind _) _ _
      rw [Res.wp_bind]
      exact Res.wp_mono x (fun _ _ z => z.elim) fun c' h' ⟨a, b, kp, dr⟩ => ⟨a, b, fun x o g n1 _ _ n4 n5 => kp x o g n1 n4 n5, dr⟩
    | ret xs env1 s1 =>
      rw [e] at x
      show OkD D O p.dv rr h own qs _ (chkD env1[p.dv]? (forD p.j (bD cs call0 wf p.dv p.body) xs env1 dd s1))
      cases q0 : env1[p.dv]? with
      | none => trivial
      | some w =>
        cases w with
        | some _ => trivial
        | none =>
          show OkD D O p.dv rr h own qs _ (forD p.j (bD cs call0 wf p.dv p.body) xs env1 dd s1)
          cases et : evSrc P call p.it env h with
          | fail => rw [et] at x; exact x.elim
          | exc c h1 => rw [et] at x; exact x.elim
          | ret src h1 =>
            rw [et] at x
            obtain ⟨own1, fr1, st1, _, sr⟩ := x
            have f1 := f.step st1 fr1 q0 rfl
            show OkD D O p.dv rr h own qs ((evSrc P call p.it env h).bind fun src h1 => forLoop src (.name p.j) (fun env h => xSs P call wf p.body env h) (src.size h1) (src.size h1) env h1) _
            rw [et]
            show OkD D O p.dv rr h own qs (forLoop src (.name p.j) (fun env h => xSs P call wf p.body env h) (src.size h1) (src.size h1) env h1) _
            rw [sr.size]
            exact OkD.trans (DSt.of st1) (forD_ok hj (fun f => xDs_ok hC hK p.body f) xs 0 rfl (by omega) f1 sr)
/-- behind the deep part -/
theorem thaw_ok {t : Rs} {r : RD} (hn : h.n ≤ h2.n) (hk : ∀ x o, h.get x = some o → h2.get x = some o) (ho : ∀ i x, own' i = some x → own i = some x) (hr : h.n ≤ rr) (hq : ∀ q ∈ qs, h.n ≤ q) (x : OkD D O dv rr h2 own' qs t r) : OkS D O h own t (thaw dv r) := by
  cases r with
  | fail => trivial
  | exc c s1 =>
    exact Res.wp_mono x (fun _ _ z => z) fun c' h' ⟨a, b, kp, dr⟩ => ⟨a, Nat.le_trans hn b, fun y o g n1 n4 n5 => kp y o (hk y o g) (fun i z => n1 i (ho i y z)) (fun z => absurd (Hq.get_lt g) (by rw [z]; exact Nat.not_lt.mpr hr)) (fun z => absurd (Hq.get_lt g) (Nat.not_lt.mpr (hq y z))) n4 n5, dr⟩
  | ret fl env1 dd1 s1 =>
    have key : ∀ {f' : Flow}, fl ≠ .cont → t.wp (fun p h' => ∃ own2 qs', Df D O dv rr qs' h' own2 env1 p.2 s1 dd1 ∧ DSt D rr h2 own' qs h' own2 qs' ∧ RelF D.1 h' (Av D (OP O rr qs') own2) fl p.1) (fun _ _ => False) →
        t.wp (fun p h' => ∃ own2, Fr D h' O own2 (env1.set dv (frz dd1)) p.2 s1 ∧ Stp D h own h' own2 ∧ RelF D.1 h' (Av D O own2) fl p.1) (fun _ _ => False) := fun _ x => Res.wp_mono x (fun p h' ⟨own2, qs', f, st, rf⟩ => by
      obtain ⟨f', env'⟩ := p
      refine ⟨setO' own2 dv none, f.freeze, ⟨Nat.le_trans hn st.n, fun y o g n1 n4 n5 => st.keep y o (hk y o g) (fun i z => n1 i (ho i y z)) (fun z => absurd (Hq.get_lt g) (by rw [z]; exact Nat.not_lt.mpr hr)) (fun z => absurd (Hq.get_lt g) (Nat.not_lt.mpr (hq y z))) n4 n5, fun i y z => ?_⟩, ?_⟩
      · rcases st.own i y (setO_none z).1 with z | z
        · exact .inl (ho i y z)
        · exact .inr (Nat.le_trans hn z)
      · have m : Mv h' (Av D (OP O rr qs') own2) h' (Av D O (setO' own2 dv none)) := Mv.less fun r a => by
          rcases a with a | ⟨i, a⟩ | a
          · exact .inl (.inl a)
          · exact .inr (.inl ⟨i, (setO_none a).1⟩)
          · exact .inr (.inr a)
        cases rf with
        | next => exact .next
        | cont => exact .cont
        | ret rv => exact .ret (rv.mv m)) fun _ _ z => z
    cases fl with
    | next => exact key (f' := .next) (by intro z; cases z) x
    | ret v => exact key (f' := .next) (by intro z; cases z) x
    | cont => trivial
theorem two_ok (hC : SC D call call0) (hK : ConstsOk P cs) (p : DSpec) (fr : Fr D h O own env0 env s) (hl : p.dv < env0.length) : OkD D O p.dv (h.n + 1) (initH h) (setO' own p.dv none) [h.n] (xS P call wf p.init env h) (twoD cs call0 wf p env0 s) := by
  obtain ⟨e, f⟩ := init_ok (P := P) (call := call) (wf := wf) fr hl
  unfold DSpec.init twoD
  cases q : p.two with
  | none =>
    show OkD D O p.dv (h.n + 1) (initH h) (setO' own p.dv none) [h.n] (xS P call wf (.asg (.name p.dv) (.lst [.lst []])) env h) (.ret .next (env0.set p.dv none) [[]] s)
    rw [e]
    exact ⟨_, _, f, DSt.refl, .next⟩
  | some w =>
    obtain ⟨c, b⟩ := w
    show OkD D O p.dv (h.n + 1) (initH h) (setO' own p.dv none) [h.n] (xS P call wf (.par [p.dv, c] [.lst [.lst []], twoE b]) env h) (if c = p.dv then .fail else genD p.dv (x0 cs call0 wf (.asg (.name c) (twoE b)) (env0.set p.dv none) s) [[]])
    rw [two_run, e]
    by_cases hc : c = p.dv
    · rw [if_pos hc]; trivial
    · rw [if_neg hc]
      exact gen_ok hC hK f _ (asg_same hc)
theorem deep_ok (hC : SC D call call0) (hK : ConstsOk P cs) (p : DSpec) (fr : Fr D h O own env0 env s) : OkS D O h own (xSs P call wf p.all env h) (deepX cs call0 wf p env0 s) := by
  unfold DSpec.all deepX
  rw [xSs_append]
  refine OkS.bind (sSs (wf := wf) hC hK p.pre fr) fun fl q h1 own1 env1 s1 fr1 st1 rf => ?_
  obtain ⟨f', env1'⟩ := q
  cases rf with
  | cont => exact OkS.now fr1 .cont
  | ret rv => exact OkS.now fr1 (.ret rv)
  | next =>
    show OkS D O h1 own1 (xSs P call wf (p.init :: .for (.name p.j) p.it p.body :: p.post) env1' h1) (if Nat.blt p.dv env1.length = true then _ else .fail)
    by_cases hl : Nat.blt p.dv env1.length = true
    · rw [if_pos hl]
      have hl' : p.dv < env1.length := Nat.le_of_ble_eq_true hl
      have e3 : ∀ env h, xSs P call wf (p.init :: .for (.name p.j) p.it p.body :: p.post) env h = ((xS P call wf p.init env h).bind fun q h1 => seqF q h1 fun env h => xS P call wf (.for (.name p.j) p.it p.body) env h).bind fun q h1 => seqF q h1 fun env h => xSs P call wf p.post env h := fun env h => by
        show (xS P call wf p.init env h).bind _ = ((xS P call wf p.init env h).bind _).bind _
        cases xS P call wf p.init env h with
        | fail => rfl
        | exc c h1 => rfl
        | ret q h1 =>
          obtain ⟨f, env1⟩ := q
          cases f <;> rfl
      rw [e3]
      have big : OkD D O p.dv (h1.n + 1) (initH h1) (setO' own1 p.dv none) [h1.n] ((xS P call wf p.init env1' h1).bind fun q h1 => seqF q h1 fun env h => xS P call wf (.for (.name p.j) p.it p.body) env h) ((twoD cs call0 wf p env1 s1).bind (midD cs call0 wf p)) := by
        refine OkD.bind (two_ok hC hK p fr1 hl') fun fl q h2 own2 env2 s2 dd2 qs2 f2 st2 rf => ?_
        obtain ⟨f', env2'⟩ := q
        cases rf with
        | next => exact loopD_ok hC hK p f2
        | cont => exact ⟨own2, qs2, f2, DSt.refl, .cont⟩
        | ret r => exact ⟨own2, qs2, f2, DSt.refl, .ret r⟩
      refine OkS.bind (thaw_ok (by show h1.n ≤ h1.n + 1 + 1; omega) (fun x o g => get_old (get_old g)) (fun i x z => (setO_none z).1) (by omega) (fun q hq => by rw [List.mem_singleton.mp hq]; exact Nat.le_refl _) big) fun fl q h3 own3 env3 s3 fr3 st3 rf => ?_
      obtain ⟨f', env3'⟩ := q
      cases rf with
      | next => exact sSs (wf := wf) hC hK p.post fr3
      | cont => exact OkS.now fr3 .cont
      | ret rv => exact OkS.now fr3 (.ret rv)
    · rw [if_neg hl]; trivial
/-- a def given by such a description -/
def deepF (cs : List VV) (wf : Nat) (p : DSpec) (call0 : Call0) (vs : List VV) (s : Drw) : RF := if vs.length = p.np then rt0 (deepX cs call0 wf p (vs.map (fun v => some (false, v)) ++ List.replicate (p.nl - p.np) none) s) else .fail
theorem deepF_ok (hK : ConstsOk P cs) {i : Nat} (p : DSpec) (hp : P.fns[i]? = some ⟨p.np, p.nl, p.all⟩) (k : Nat) (hC : SC D (evF P wf k) call0) : ExtOk D (evF P wf (k + 1)) i (deepF cs wf p call0) := by
  intro vs ps h s A a1 a2 hA r dr
  unfold deepF
  by_cases hl : vs.length = p.np
  · rw [if_pos hl]
    have hl2 : ps.length = p.np := by rw [← r.length]; exact hl
    have e3 : evF P wf (k + 1) i ps h = (xSs P (evF P wf k) wf p.all (ps.map some ++ List.replicate (p.nl - p.np) none) h).bind rtOf := by
      show (match P.fns[i]? with
        | some d => if ps.length = d.np then (xSs P (evF P wf k) wf d.body (ps.map some ++ List.replicate (d.nl - d.np) none) h).bind rtOf else .fail
        | none => .fail) = _
      rw [hp]
      exact if_pos hl2
    have x := deep_ok (wf := wf) hC hK p (args_fr hA r dr a1 a2 (p.nl - p.np))
    rw [e3]
    cases e4 : deepX cs call0 wf p (vs.map (fun v => some (false, v)) ++ List.replicate (p.nl - p.np) none) s with
    | fail => trivial
    | exc c s1 =>
      rw [e4] at x
      show Res.wp _ _ _
      rw [Res.wp_bind]
      exact Res.wp_mono x (fun _ _ z => z.elim) fun c' h' ⟨a, n, kp, d'⟩ => ⟨a, ⟨n, fun r o g n1 n2 => kp r o g (fun _ z => by cases z) n1 n2⟩, d'⟩
    | ret f env1 s1 =>
      rw [e4] at x
      have x : (xSs P (evF P wf k) wf p.all (ps.map some ++ List.replicate (p.nl - p.np) none) h).wp _ _ := x
      cases f with
      | cont => trivial
      | next =>
        show Res.wp _ _ _
        rw [Res.wp_bind]
        refine Res.wp_mono x (fun q h' ⟨own', fr', st', rf⟩ => ?_) fun _ _ z => z
        obtain ⟨f', env'⟩ := q
        cases rf
        exact ⟨⟨st'.n, fun r o g n1 n2 => st'.keep r o g (fun _ z => by cases z) n1 n2⟩, fr'.dr, .non⟩
      | ret v =>
        show Res.wp _ _ _
        rw [Res.wp_bind]
        refine Res.wp_mono x (fun q h' ⟨own', fr', st', rf⟩ => ?_) fun _ _ z => z
        obtain ⟨f', env'⟩ := q
        cases rf with
        | ret rv => exact ⟨⟨st'.n, fun r o g n1 n2 => st'.keep r o g (fun _ z => by cases z) n1 n2⟩, fr'.dr, rv.mv fun r o na g => ⟨g, fun z => na (.inl z)⟩⟩
  · rw [if_neg hl]; trivial
end
end MP.Z

namespace MP.Z
/-! ### the draws -/
def drawBody : List S := [.asg (.name 2) (.idx (.var 0) (.int 0)), .seti (.var 0) (.int 1) (.bin .add (.idx (.var 0) (.int 1)) (.int 1)), .asg (.name 3) (.bin .mod (.idx (.var 0) (.int 1)) (.bi .len [.var 2])), .asg (.name 4) (.idx (.var 2) (.var 3)), .ife (.cmp .ge (.var 4) (.int 1000000000000000000)) [.seti (.var 2) (.var 3) (.bin .fdiv (.var 4) (.var 1)), .ret (.bin .mod (.var 4) (.var 1))] [], .asg (.name 5) (.bin .mod (.bin .add (.var 4) (.bin .mul (.int 104729) (.idx (.var 0) (.int 1)))) (.int 4294967291)), .asg (.name 5) (.bin .mod (.bin .pow (.var 5) (.int 5)) (.int 4294967279)), .ret (.bin .mod (.bin .fdiv (.bin .mod (.bin .add (.bin .mul (.bin .fdiv (.var 5) (.int 64)) (.int 69621)) (.var 5)) (.int 4294967231)) (.int 8)) (.var 1))]
def dAt (s : Drw) : Int := (s.2 + 1) % (s.1.length : Int)
def dCell (s : Drw) : Int := s.1.getD (dAt s).toNat 0
def dMix (s : Drw) : Int := ((dCell s + 104729 * (s.2 + 1)) % 4294967291) ^ 5 % 4294967279
/-- a draw's value, what is left -/
def dVal (s : Drw) (lim : Int) : Int := if 1000000000000000000 ≤ dCell s then dCell s % lim else (dMix s / 64 * 69621 + dMix s) % 4294967231 / 8 % lim
def dNext (s : Drw) (lim : Int) : Drw := if 1000000000000000000 ≤ dCell s then (s.1.set (dAt s).toNat (dCell s / lim), s.2 + 1) else (s.1, s.2 + 1)
def drawFn : List VV → Drw → RF
  | [.drw, .int lim], s => if (decide (0 < lim) && decide (lim < 1073741824)) = true then .ret (.int (dVal s lim)) (dNext s lim) else .fail
  | _, _ => .fail
theorem dVal_lt (s : Drw) {lim : Int} (h : 0 < lim) : 0 ≤ dVal s lim ∧ dVal s lim < lim := by
  unfold dVal
  split
  · exact ⟨Int.emod_nonneg _ (by omega), Int.emod_lt_of_pos _ h⟩
  · exact ⟨Int.emod_nonneg _ (by omega), Int.emod_lt_of_pos _ h⟩
theorem ints_get : ∀ (ns : List Int) (i : Nat), i < ns.length → (intsPV ns)[i]? = some (.int (ns.getD i 0))
  | [], i, h => absurd h (Nat.not_lt_zero _)
  | n :: ns, 0, h => rfl
  | n :: ns, i + 1, h => by
    show (intsPV ns)[i]? = _
    rw [ints_get ns i (Nat.lt_of_succ_lt_succ h)]
    rfl
theorem ints_set : ∀ (ns : List Int) (i : Nat) (v : Int), (intsPV ns).set i (.int v) = intsPV (ns.set i v)
  | [], i, v => rfl
  | n :: ns, 0, v => rfl
  | n :: ns, i + 1, v => by
    show _ :: (intsPV ns).set i _ = _ :: intsPV (ns.set i v)
    rw [ints_set ns i v]
theorem ints_len (ns : List Int) : (intsPV ns).length = ns.length := List.length_map ..
theorem set_ok {D : Nat × Nat} {h : Hq} {s : Drw} (dr : Dr D h s) (k : Int) : ExtD D h (h.set D.1 (.lst [.ref D.2, .int k])) ∧ Dr D (h.set D.1 (.lst [.ref D.2, .int k])) (s.1, k) := by
  have h1 := Hq.get_lt dr.a
  refine ⟨⟨Nat.le_refl _, fun r o e n1 n2 => by rw [Hq.get_set h _ _ _ h1, if_neg n1]; exact e⟩, by rw [Hq.get_set h _ _ _ h1, if_pos rfl], by rw [Hq.get_set h _ _ _ h1, if_neg dr.ab.symm]; exact dr.b, dr.ne, dr.ab⟩
theorem set_ok2 {D : Nat × Nat} {h : Hq} {s : Drw} (dr : Dr D h s) {ns : List Int} (hn : ns ≠ []) : ExtD D h (h.set D.2 (.lst (intsPV ns))) ∧ Dr D (h.set D.2 (.lst (intsPV ns))) (ns, s.2) := by
  have h1 := Hq.get_lt dr.b
  refine ⟨⟨Nat.le_refl _, fun r o e n1 n2 => by rw [Hq.get_set h _ _ _ h1, if_neg n2]; exact e⟩, by rw [Hq.get_set h _ _ _ h1, if_neg dr.ab]; exact dr.a, by rw [Hq.get_set h _ _ _ h1, if_pos rfl], hn, dr.ab⟩
theorem draw_run {D : Nat × Nat} {P : Prog} {call : Call} {wf : Nat} {h : Hq} {s : Drw} {lim : Int} (dr : Dr D h s) (h1 : 0 < lim) (h2 : lim < 1073741824) :
    ∃ h' env', xSs P call wf drawBody [some (.ref D.1), some (.int lim), none, none, none, none] h = .ret (.ret (.int (dVal s lim)), env') h' ∧ ExtD D h h' ∧ Dr D h' (dNext s lim) := by
  obtain ⟨x1, d1⟩ := set_ok dr (s.2 + 1)
  generalize eh : h.set D.1 (.lst [.ref D.2, .int (s.2 + 1)]) = g at x1 d1
  have hl : 0 < s.1.length := List.length_pos_iff.mpr dr.ne
  have hat0 : 0 ≤ dAt s := Int.emod_nonneg _ (by omega)
  have hat1 : dAt s < s.1.length := Int.emod_lt_of_pos _ (by omega)
  have hat2 : (dAt s).toNat < s.1.length := by omega
  have e1 : xS P call wf (.asg (.name 2) (.idx (.var 0) (.int 0))) [some (.ref D.1), some (.int lim), none, none, none, none] h = .ret (.next, [some (.ref D.1), some (.int lim), some (.ref D.2), none, none, none]) h := by
    show (idxS h (.ref D.1) (.int 0)).bind _ = _
    unfold idxS
    simp only [dr.a]
    rfl
  have e2 : ∀ a b c d, xS P call wf (.seti (.var 0) (.int 1) (.bin .add (.idx (.var 0) (.int 1)) (.int 1))) [some (.ref D.1), some (.int lim), a, b, c, d] h = .ret (.next, [some (.ref D.1), some (.int lim), a, b, c, d]) g := by
    intro a b c d
    show ((((idxS h (.ref D.1) (.int 1)).bind fun w h2 => addS h2 w (.int 1))).bind fun v h1 => hqF _ (setIdx h1 (.ref D.1) (.int 1) v)) = _
    unfold idxS
    simp only [dr.a]
    show hqF _ (setO h D.1 (.int 1) (.int (s.2 + 1)) (h.get D.1)) = _
    rw [dr.a]
    show hqF _ (some (h.set D.1 (.lst [.ref D.2, .int (s.2 + 1)]))) = _
    rw [eh]
    rfl
  have i1 : idxS g (.ref D.1) (.int 1) = .ret (.int (s.2 + 1)) g := by
    unfold idxS
    simp only [d1.a]
    rfl
  have e3 : ∀ b c d, xS P call wf (.asg (.name 3) (.bin .mod (.idx (.var 0) (.int 1)) (.bi .len [.var 2]))) [some (.ref D.1), some (.int lim), some (.ref D.2), b, c, d] g = .ret (.next, [some (.ref D.1), some (.int lim), some (.ref D.2), some (.int (dAt s)), c, d]) g := by
    intro b c d
    show ((((idxS g (.ref D.1) (.int 1)).bind fun v h1 => (biS .len h1 [.ref D.2]).bind fun w h2 => binS .mod h2 v w)).bind fun v h1 => envF h1 (asgT (.name 3) v _)) = _
    rw [i1]
    show (((biS .len g [.ref D.2]).bind fun w h2 => binS .mod h2 (.int (s.2 + 1)) w).bind fun v h1 => envF h1 (asgT (.name 3) v _)) = _
    unfold biS
    simp only [d1.b, ints_len]
    show ((okIf (decide (0 < (s.1.length : Int))) (.ret (.int ((s.2 + 1) % (s.1.length : Int))) g)).bind fun v h1 => envF h1 (asgT (.name 3) v _)) = _
    unfold okIf
    rw [if_pos (decide_eq_true (by omega))]
    rfl
  have i2 : idxS g (.ref D.2) (.int (dAt s)) = .ret (.int (dCell s)) g := by
    unfold idxS
    simp only [d1.b]
    unfold at'
    rw [if_pos hat0, ints_get _ _ hat2]
    rfl
  have e4 : ∀ c d, xS P call wf (.asg (.name 4) (.idx (.var 2) (.var 3))) [some (.ref D.1), some (.int lim), some (.ref D.2), some (.int (dAt s)), c, d] g = .ret (.next, [some (.ref D.1), some (.int lim), some (.ref D.2), some (.int (dAt s)), some (.int (dCell s)), d]) g := by
    intro c d
    show ((idxS g (.ref D.2) (.int (dAt s))).bind fun v h1 => envF h1 (asgT (.name 4) v _)) = _
    rw [i2]
    rfl
  by_cases hc : 1000000000000000000 ≤ dCell s
  · obtain ⟨x2, d2⟩ := set_ok2 d1 (ns := s.1.set (dAt s).toNat (dCell s / lim)) (fun z => by
      have := congrArg List.length z
      rw [List.length_set] at this
      have this : s.1.length = 0 := this
      omega)
    have e5 : ∀ d, xS P call wf (.ife (.cmp .ge (.var 4) (.int 1000000000000000000)) [.seti (.var 2) (.var 3) (.bin .fdiv (.var 4) (.var 1)), .ret (.bin .mod (.var 4) (.var 1))] []) [some (.ref D.1), some (.int lim), some (.ref D.2), some (.int (dAt s)), some (.int (dCell s)), d] g
        = .ret (.ret (.int (dCell s % lim)), [some (.ref D.1), some (.int lim), some (.ref D.2), some (.int (dAt s)), some (.int (dCell s)), d]) (g.set D.2 (.lst (intsPV (s.1.set (dAt s).toNat (dCell s / lim))))) := by
      intro d
      show ifS (.bl (decide (1000000000000000000 ≤ dCell s))) g _ _ = _
      rw [decide_eq_true hc]
      show (((okIf (decide (0 < lim) && decide (lim < 1073741824)) (.ret (.int (dCell s / lim)) g)).bind fun v h1 => hqF _ (setIdx h1 (.ref D.2) (.int (dAt s)) v)).bind fun p h1 => seqF p h1 _) = _
      unfold okIf
      rw [if_pos (by rw [Bool.and_eq_true]; exact ⟨decide_eq_true h1, decide_eq_true h2⟩)]
      show ((hqF _ (setO g D.2 (.int (dAt s)) (.int (dCell s / lim)) (g.get D.2))).bind fun p h1 => seqF p h1 _) = _
      rw [d1.b]
      show ((hqF _ (if (decide (0 ≤ dAt s) && le' ((dAt s).toNat + 1) (intsPV s.1).length) = true then some (g.set D.2 (.lst ((intsPV s.1).set (dAt s).toNat (.int (dCell s / lim))))) else none)).bind fun p h1 => seqF p h1 _) = _
      rw [if_pos (by rw [Bool.and_eq_true]; exact ⟨decide_eq_true hat0, by rw [ints_len]; exact Nat.ble_eq_true_of_le hat2⟩), ints_set]
      show (((okIf (decide (0 < lim)) (.ret (.int (dCell s % lim)) _)).bind fun v h1 => Res.ret (Flow.ret v, _) h1).bind fun p h1 => seqF p h1 _) = _
      unfold okIf
      rw [if_pos (decide_eq_true h1)]
      rfl
    refine ⟨_, [some (.ref D.1), some (.int lim), some (.ref D.2), some (.int (dAt s)), some (.int (dCell s)), none], ?_, x1.trans x2, ?_⟩
    · unfold drawBody
      show ((xS P call wf _ _ h).bind fun p h1 => seqF p h1 _) = _
      rw [e1]
      show ((xS P call wf _ _ h).bind fun p h1 => seqF p h1 _) = _
      rw [e2]
      show ((xS P call wf _ _ g).bind fun p h1 => seqF p h1 _) = _
      rw [e3]
      show ((xS P call wf _ _ g).bind fun p h1 => seqF p h1 _) = _
      rw [e4]
      show ((xS P call wf _ _ g).bind fun p h1 => seqF p h1 _) = _
      rw [e5]
      have : dVal s lim = dCell s % lim := if_pos hc
      rw [this]
      rfl
    · have : dNext s lim = (s.1.set (dAt s).toNat (dCell s / lim), s.2 + 1) := if_pos hc
      rw [this]
      exact d2
  · have e5 : ∀ d, xS P call wf (.ife (.cmp .ge (.var 4) (.int 1000000000000000000)) [.seti (.var 2) (.var 3) (.bin .fdiv (.var 4) (.var 1)), .ret (.bin .mod (.var 4) (.var 1))] []) [some (.ref D.1), some (.int lim), some (.ref D.2), some (.int (dAt s)), some (.int (dCell s)), d] g
        = .ret (.next, [some (.ref D.1), some (.int lim), some (.ref D.2), some (.int (dAt s)), some (.int (dCell s)), d]) g := by
      intro d
      show ifS (.bl (decide (1000000000000000000 ≤ dCell s))) g _ _ = _
      rw [decide_eq_false hc]
      rfl
    have e6 : ∀ d, xS P call wf (.asg (.name 5) (.bin .mod (.bin .add (.var 4) (.bin .mul (.int 104729) (.idx (.var 0) (.int 1)))) (.int 4294967291))) [some (.ref D.1), some (.int lim), some (.ref D.2), some (.int (dAt s)), some (.int (dCell s)), d] g
        = .ret (.next, [some (.ref D.1), some (.int lim), some (.ref D.2), some (.int (dAt s)), some (.int (dCell s)), some (.int ((dCell s + 104729 * (s.2 + 1)) % 4294967291))]) g := by
      intro d
      show ((((((idxS g (.ref D.1) (.int 1)).bind fun w h2 => mulS h2 (.int 104729) w)).bind fun w h2 => addS h2 (.int (dCell s)) w).bind fun v h1 => binS .mod h1 v (.int 4294967291)).bind fun v h1 => envF h1 (asgT (.name 5) v _)) = _
      rw [i1]
      rfl
    generalize em : (dCell s + 104729 * (s.2 + 1)) % 4294967291 = m at e6
    have hm0 : 0 ≤ m := by rw [← em]; exact Int.emod_nonneg _ (by decide)
    have hm1 : m < 4294967291 := by rw [← em]; exact Int.emod_lt_of_pos _ (by decide)
    have e7 : xS P call wf (.asg (.name 5) (.bin .mod (.bin .pow (.var 5) (.int 5)) (.int 4294967279))) [some (.ref D.1), some (.int lim), some (.ref D.2), some (.int (dAt s)), some (.int (dCell s)), some (.int m)] g
        = .ret (.next, [some (.ref D.1), some (.int lim), some (.ref D.2), some (.int (dAt s)), some (.int (dCell s)), some (.int (m ^ 5 % 4294967279))]) g := by
      show ((((okIf (decide ((0 : Int) ≤ 5) && decide ((5 : Int) ≤ 1000000) && decide (m.natAbs < 2 ^ 64)) (.ret (.int (m ^ (5 : Int).toNat)) g)).bind fun v h1 => binS .mod h1 v (.int 4294967279))).bind fun v h1 => envF h1 (asgT (.name 5) v _)) = _
      unfold okIf
      rw [if_pos (by rw [Bool.and_eq_true]; exact ⟨by decide, decide_eq_true (by omega)⟩)]
      rfl
    have e8 : xS P call wf (.ret (.bin .mod (.bin .fdiv (.bin .mod (.bin .add (.bin .mul (.bin .fdiv (.var 5) (.int 64)) (.int 69621)) (.var 5)) (.int 4294967231)) (.int 8)) (.var 1))) [some (.ref D.1), some (.int lim), some (.ref D.2), some (.int (dAt s)), some (.int (dCell s)), some (.int (m ^ 5 % 4294967279))] g
        = .ret (.ret (.int ((m ^ 5 % 4294967279 / 64 * 69621 + m ^ 5 % 4294967279) % 4294967231 / 8 % lim)), [some (.ref D.1), some (.int lim), some (.ref D.2), some (.int (dAt s)), some (.int (dCell s)), some (.int (m ^ 5 % 4294967279))]) g := by
      generalize m ^ 5 % 4294967279 = y
      show ((((((okIf (lt64 (y / 64) || lt64 69621) (.ret (.int (y / 64 * 69621)) g)).bind fun v h1 => addS h1 v (.int y)).bind fun v h1 => binS .mod h1 v (.int 4294967231)).bind fun v h1 => binS .fdiv h1 v (.int 8)).bind fun v h1 => binS .mod h1 v (.int lim)).bind fun v h1 => Res.ret (Flow.ret v, _) h1) = _
      unfold okIf
      rw [if_pos (by rw [Bool.or_eq_true]; exact .inr rfl)]
      show ((okIf (decide (0 < lim)) (.ret (.int ((y / 64 * 69621 + y) % 4294967231 / 8 % lim)) g)).bind fun v h1 => Res.ret (Flow.ret v, _) h1) = _
      unfold okIf
      rw [if_pos (decide_eq_true h1)]
      rfl
    refine ⟨g, [some (.ref D.1), some (.int lim), some (.ref D.2), some (.int (dAt s)), some (.int (dCell s)), some (.int (m ^ 5 % 4294967279))], ?_, x1, ?_⟩
    · unfold drawBody
      show ((xS P call wf _ _ h).bind fun p h1 => seqF p h1 _) = _
      rw [e1]
      show ((xS P call wf _ _ h).bind fun p h1 => seqF p h1 _) = _
      rw [e2]
      show ((xS P call wf _ _ g).bind fun p h1 => seqF p h1 _) = _
      rw [e3]
      show ((xS P call wf _ _ g).bind fun p h1 => seqF p h1 _) = _
      rw [e4]
      show ((xS P call wf _ _ g).bind fun p h1 => seqF p h1 _) = _
      rw [e5]
      show ((xS P call wf _ _ g).bind fun p h1 => seqF p h1 _) = _
      rw [e6]
      show ((xS P call wf _ _ g).bind fun p h1 => seqF p h1 _) = _
      rw [e7]
      show ((xS P call wf _ _ g).bind fun p h1 => seqF p h1 _) = _
      rw [e8]
      have : dVal s lim = (m ^ 5 % 4294967279 / 64 * 69621 + m ^ 5 % 4294967279) % 4294967231 / 8 % lim := by
        unfold dVal dMix
        rw [if_neg hc, em]
      rw [this]
      rfl
    · have : dNext s lim = (s.1, s.2 + 1) := if_neg hc
      rw [this]
      exact d1
theorem draw_ok {D : Nat × Nat} {P : Prog} {wf i : Nat} (hd : P.fns[i]? = some ⟨2, 6, drawBody⟩) (k : Nat) : ExtOk D (evF P wf (k + 1)) i drawFn := by
  intro vs ps h s A a1 a2 hA r dr
  cases vs with
  | nil => trivial
  | cons v0 vs =>
    cases vs with
    | nil => cases v0 <;> trivial
    | cons v1 vs =>
      cases vs with
      | cons _ _ => cases v0 <;> cases v1 <;> trivial
      | nil =>
        cases v0 <;> try trivial
        cases v1 <;> try trivial
        rename_i lim
        have e0 : drawFn [.drw, .int lim] s = if (decide (0 < lim) && decide (lim < 1073741824)) = true then .ret (.int (dVal s lim)) (dNext s lim) else .fail := rfl
        rw [e0]
        by_cases hb : (decide (0 < lim) && decide (lim < 1073741824)) = true
        · rw [if_pos hb]
          obtain ⟨hb1, hb2⟩ := and2 hb
          cases r with
          | cons r1 r2 =>
            cases r2 with
            | cons r2 r3 =>
              cases r3; cases r1; cases r2
              obtain ⟨h', env', e, x, d'⟩ := draw_run (P := P) (call := evF P wf k) (wf := wf) dr (of_decide_eq_true hb1) (of_decide_eq_true hb2)
              have e3 : evF P wf (k + 1) i [.ref D.1, .int lim] h = (xSs P (evF P wf k) wf drawBody [some (.ref D.1), some (.int lim), none, none, none, none] h).bind rtOf := by
                show (match P.fns[i]? with
                  | some d => if [PV.ref D.1, PV.int lim].length = d.np then (xSs P (evF P wf k) wf d.body ([PV.ref D.1, PV.int lim].map some ++ List.replicate (d.nl - d.np) none) h).bind rtOf else .fail
                  | none => .fail) = _
                rw [hd]
                rfl
              show (evF P wf (k + 1) i [.ref D.1, .int lim] h).wp _ _
              rw [e3, e]
              exact ⟨x, d', .int _⟩
        · rw [if_neg hb]
          trivial
end MP.Z

namespace MP.Z
/-! ### a law from ev0 -/
def startBody : List S := [.ret (.lst [.ite (.cmp .ne (.var 0) (.lst [])) (.bi .list [.var 0]) (.lst [.int 0]), .int 0])]
def startNums (ns : List Int) : List Int := if ns.isEmpty = true then [0] else ns
def extD (cs : List VV) (wf di : Nat) (dl : List (Nat × DSpec)) (i : Nat) : Option (Call0 → List VV → Drw → RF) := if i = di then some (fun _ => drawFn) else (dl.lookup i).map fun p => deepF cs wf p
theorem h0_get0 (ns : List Int) : (h0 ns).get 0 = some (.frz (intsPV ns)) := rfl
theorem toDs_ints (h : Hq) (k : Nat) : ∀ ns : List Int, mapO (toD h (k + 1)) (intsPV ns) = some (ns.map PySem.PyData.int)
  | [] => rfl
  | n :: ns => by
    have ih := toDs_ints h k ns
    have e : mapO (toD h (k + 1)) (.int n :: intsPV ns) = some (PySem.PyData.int n :: ns.map PySem.PyData.int) := by
      unfold mapO
      have t : toD h (k + 1) (.int n) = some (.int n) := rfl
      rw [ih, t]
    exact e
theorem start_run {P : Prog} {call : Call} {wf : Nat} (ns : List Int) : ∃ h' env', xSs P call wf startBody [some (.ref 0)] (h0 ns) = .ret (.ret (.ref 3), env') h' ∧ h'.n = 4 ∧ Dr (3, 2) h' (startNums ns, 0) := by
  have g1 : ((h0 ns).push (.lst [])).get 0 = some (.frz (intsPV ns)) := get_old (h0_get0 ns)
  have g2 : ((h0 ns).push (.lst [])).get 1 = some (.lst []) := get_new
  have en : eqS ((h0 ns).push (.lst [])) (.ref 0) (.ref 1) = some ns.isEmpty := by
    unfold eqS
    have t1 : toD ((h0 ns).push (.lst [])) 64 (.ref 0) = some (.list (ns.map PySem.PyData.int)) := by
      show (match ((h0 ns).push (.lst [])).get 0 with | some (.lst xs) => (mapO (toD ((h0 ns).push (.lst [])) 63) xs).map PySem.PyData.list | some (.frz xs) => (mapO (toD ((h0 ns).push (.lst [])) 63) xs).map PySem.PyData.list | _ => none) = _
      rw [g1]
      show (mapO (toD ((h0 ns).push (.lst [])) 63) (intsPV ns)).map PySem.PyData.list = _
      rw [toDs_ints]
      rfl
    have t2 : toD ((h0 ns).push (.lst [])) 64 (.ref 1) = some (.list []) := by
      show (match ((h0 ns).push (.lst [])).get 1 with | some (.lst xs) => (mapO (toD ((h0 ns).push (.lst [])) 63) xs).map PySem.PyData.list | some (.frz xs) => (mapO (toD ((h0 ns).push (.lst [])) 63) xs).map PySem.PyData.list | _ => none) = _
      rw [g2]
      rfl
    rw [t1, t2]
    cases ns with
    | nil => rfl
    | cons n ns => rfl
  have e1 : evE P call (.cmp .ne (.var 0) (.lst [])) [some (.ref 0)] (h0 ns) = .ret (.bl (!ns.isEmpty)) ((h0 ns).push (.lst [])) := by
    show cmpS .ne ((h0 ns).push (.lst [])) (.ref 0) (.ref 1) = _
    unfold cmpS
    simp only [en]
    rfl
  have e2 : ∃ h2, evE P call (.ite (.cmp .ne (.var 0) (.lst [])) (.bi .list [.var 0]) (.lst [.int 0])) [some (.ref 0)] (h0 ns) = .ret (.ref 2) h2 ∧ h2.n = 3 ∧ h2.get 2 = some (.lst (intsPV (startNums ns))) := by
    show ∃ h2, (evE P call (.cmp .ne (.var 0) (.lst [])) [some (.ref 0)] (h0 ns)).bind (fun v h1 => ifB v h1 (fun h => evE P call (.bi .list [.var 0]) [some (.ref 0)] h) (fun h => evE P call (.lst [.int 0]) [some (.ref 0)] h)) = _ ∧ _
    rw [e1]
    cases hb : ns.isEmpty with
    | true =>
      refine ⟨((h0 ns).push (.lst [])).push (.lst [.int 0]), rfl, rfl, ?_⟩
      have : startNums ns = [0] := if_pos hb
      rw [this]
      exact get_new
    | false =>
      refine ⟨((h0 ns).push (.lst [])).push (.lst (intsPV ns)), ?_, rfl, ?_⟩
      · show biS .list ((h0 ns).push (.lst [])) [.ref 0] = _
        have : seqOf ((h0 ns).push (.lst [])) (.ref 0) = some (intsPV ns) := getL_frz g1
        unfold biS
        simp only [this]
        rfl
      · have : startNums ns = ns := if_neg (by rw [hb]; exact Bool.false_ne_true)
        rw [this]
        exact get_new
  obtain ⟨h2, e3, n2, g3⟩ := e2
  refine ⟨h2.push (.lst [.ref 2, .int 0]), [some (.ref 0)], ?_, by rw [Hq.push_n, n2], ?_⟩
  · unfold startBody
    show ((((evE P call (.ite (.cmp .ne (.var 0) (.lst [])) (.bi .list [.var 0]) (.lst [.int 0])) [some (.ref 0)] (h0 ns)).bind fun v h1 => (Res.ret [PV.int 0] h1).bind fun vs h2 => Res.ret (v :: vs) h2).bind fun vs h1 => okIf (le' vs.length SL) (newLst h1 vs)).bind fun v h1 => Res.ret (Flow.ret v, [some (PV.ref 0)]) h1).bind _ = _
    rw [e3]
    show Res.ret (Flow.ret (PV.ref h2.n), [some (PV.ref 0)]) _ = _
    rw [n2]
  · have k3 : (h2.push (.lst [.ref 2, .int 0])).get 3 = some (.lst [.ref 2, .int 0]) := by
      have := get_new (h := h2) (o := .lst [.ref 2, .int 0])
      rw [n2] at this
      exact this
    refine ⟨k3, get_old g3, ?_, by decide⟩
    show startNums ns ≠ []
    unfold startNums
    cases ns with
    | nil => intro z; cases z
    | cons n ns => intro z; cases z
/-- env0 of the law's def behind its first statement -/
def lawEnv (nl : Nat) : Env0 := none :: some (false, .drw) :: List.replicate (nl - 2) none
theorem law_close {P : Prog} {cs : List VV} {wf k li si di nl : Nat} {rest : List S} {dl : List (Nat × DSpec)} (hdl : ∀ i p, dl.lookup i = some p → P.fns[i]? = some ⟨p.np, p.nl, p.all⟩) (hl : P.fns[li]? = some ⟨1, nl, .asg (.name 1) (.call si [.var 0]) :: rest⟩) (hn : 2 ≤ nl) (hs : P.fns[si]? = some ⟨1, 1, startBody⟩) (hd : P.fns[di]? = some ⟨2, 6, drawBody⟩) (hK : ConstsOk P cs)
    (H : ∀ s : Drw, s.1 ≠ [] → ∃ s', rt0 (x0s cs (f0 P cs (extD cs wf di dl) wf (k + 1)) wf rest (lawEnv nl) s) = .ret (.bl true) s') (ns : List Int) :
    (evF P wf (k + 2) li [.ref 0] (h0 ns)).wp (fun v _ => v = .bl true) (fun _ _ => False) := by
  obtain ⟨h', env', e1, n1, dr⟩ := start_run (P := P) (call := evF P wf k) (wf := wf) ns
  have es : evF P wf (k + 1) si [.ref 0] (h0 ns) = .ret (.ref 3) h' := by
    show (match P.fns[si]? with
      | some d => if [PV.ref 0].length = d.np then (xSs P (evF P wf k) wf d.body ([PV.ref 0].map some ++ List.replicate (d.nl - d.np) none) (h0 ns)).bind rtOf else .fail
      | none => .fail) = _
    rw [hs]
    show (xSs P (evF P wf k) wf startBody [some (.ref 0)] (h0 ns)).bind rtOf = _
    rw [e1]
    rfl
  obtain ⟨m, rfl⟩ : ∃ m, nl = m + 2 := ⟨nl - 2, by omega⟩
  have el : evF P wf (k + 2) li [.ref 0] (h0 ns) = (xSs P (evF P wf (k + 1)) wf rest (some (.ref 0) :: some (.ref 3) :: List.replicate m none) h').bind rtOf := by
    show (match P.fns[li]? with
      | some d => if [PV.ref 0].length = d.np then (xSs P (evF P wf (k + 1)) wf d.body ([PV.ref 0].map some ++ List.replicate (d.nl - d.np) none) (h0 ns)).bind rtOf else .fail
      | none => .fail) = _
    rw [hl]
    show ((((evF P wf (k + 1) si [.ref 0] (h0 ns)).bind fun v h1 => envF h1 (asgT (.name 1) v (some (.ref 0) :: List.replicate (m + 1) none))).bind fun p h1 => seqF p h1 fun env h => xSs P (evF P wf (k + 1)) wf rest env h).bind rtOf) = _
    rw [es]
    rfl
  obtain ⟨s', H⟩ := H (startNums ns, 0) dr.ne
  rw [el]
  have fr : Fr (3, 2) h' (fun _ => False) noOwn (lawEnv (m + 2)) (some (.ref 0) :: some (.ref 3) :: List.replicate m none) (startNums ns, 0) := by
    have none_get : ∀ (i : Nat) (x : Bool × VV), (List.replicate m (none : Option (Bool × VV)))[i]? ≠ some (some x) := fun i x e => by
      rw [List.getElem?_replicate] at e
      split at e <;> cases e
    refine ⟨by show (List.replicate (m + 2 - 2) (none : Option (Bool × VV))).length + 1 + 1 = (List.replicate m (none : Option PV)).length + 1 + 1; rw [List.length_replicate, List.length_replicate]; rfl, fun i v e => ?_, fun i v e => ?_, fun _ _ _ e => (by cases e), fun _ _ e => (by cases e), fun _ z => z.elim, dr⟩
    · match i with
      | 0 => cases e
      | 1 => cases e; exact ⟨_, rfl, .drw⟩
      | i + 2 => exact (none_get i _ e).elim
    · match i with
      | 0 => cases e
      | 1 => cases e
      | i + 2 => exact (none_get i _ e).elim
  have x := sSs (wf := wf) (f0_ok (D := (3, 2)) (P := P) (wf := wf) (ext := extD cs wf di dl) hK (fun i g hg k call0 hC => by
    unfold extD at hg
    split at hg
    · rename_i hi; cases hg; rw [hi]; exact draw_ok hd k
    · cases e : dl.lookup i with
      | none => rw [e] at hg; cases hg
      | some p => rw [e] at hg; cases hg; exact deepF_ok hK p (hdl i p e) k hC) (k + 1)) hK rest fr
  rw [Res.wp_bind]
  cases e : x0s cs (f0 P cs (extD cs wf di dl) wf (k + 1)) wf rest (lawEnv (m + 2)) (startNums ns, 0) with
  | fail => rw [e] at H; cases H
  | exc c s => rw [e] at H; cases H
  | ret f env1 s1 =>
    rw [e] at x H
    refine Res.wp_mono x (fun p h'' ⟨own', fr', st', rf⟩ => ?_) fun _ _ z => z
    obtain ⟨f', env''⟩ := p
    cases rf with
    | next => cases H
    | cont => cases H
    | ret rv =>
      cases H
      cases rv
      rfl
end MP.Z

/-! ev0 step by step: equations for simp -/
namespace MP.Z
section
variable {α β : Type} {env env' : Env0} {s s' : Drw}
theorem bind_ite {c : Prop} [Decidable c] {a b : R0 α} {f : α → Env0 → Drw → R0 β} : (if c then a else b).bind f = if c then a.bind f else b.bind f := by split <;> rfl
theorem ifV_bl {b : Bool} {x y : Env0 → Drw → R0 α} : ifV (.bl b) env s x y = if b = true then x env s else y env s := by cases b <;> rfl
theorem ifV_t {x y : Env0 → Drw → R0 α} : ifV (.bl true) env s x y = x env s := rfl
theorem ifV_f {x y : Env0 → Drw → R0 α} : ifV (.bl false) env s x y = y env s := rfl
theorem tru0_bl {b : Bool} : tru0 (.bl b) env s = .ret b env s := rfl
theorem ite_ret {c : Prop} [Decidable c] {a b : VV} : (if c then R0.ret a env s else R0.ret b env s) = R0.ret (if c then a else b) env s := by split <;> rfl
theorem ite_retB {c : Prop} [Decidable c] {a b : Bool} : (if c then R0.ret a env s else R0.ret b env s) = R0.ret (if c then a else b) env s := by split <;> rfl
theorem ite_fl {c : Prop} [Decidable c] {a b : VV} : (if c then Fl0.ret a else Fl0.ret b) = Fl0.ret (if c then a else b) := by split <;> rfl
theorem ite_bl {c : Prop} [Decidable c] {a b : Bool} : (if c then VV.bl a else VV.bl b) = VV.bl (if c then a else b) := by split <;> rfl
theorem ite_int {c : Prop} [Decidable c] {a b : Int} : (if c then VV.int a else VV.int b) = VV.int (if c then a else b) := by split <;> rfl
theorem ite_and {a b : Bool} : (if a = true then b else false) = (a && b) := by cases a <;> rfl
theorem ite_or {a b : Bool} : (if a = true then true else b) = (a || b) := by cases a <;> rfl
theorem seq0_next {k : Env0 → Drw → RS} : seq0 .next env s k = k env s := rfl
theorem seq0_ret {v : VV} {k : Env0 → Drw → RS} : seq0 (.ret v) env s k = .ret (.ret v) env s := rfl
theorem seq0_cont {k : Env0 → Drw → RS} : seq0 .cont env s k = .ret .cont env s := rfl
theorem rt0_ret {v : VV} : rt0 (.ret (.ret v) env s) = .ret v s := rfl
theorem rt0_next : rt0 (.ret .next env s) = .ret .non s := rfl
theorem rt0_exc {c : Nat} : rt0 (.exc c s) = .exc c s := rfl
theorem rt0_ite {c : Prop} [Decidable c] {a b : RS} : rt0 (if c then a else b) = if c then rt0 a else rt0 b := by split <;> rfl
theorem asgF_name {i : Nat} {o : Bool} {v : VV} : asgF (.name i) o v env s = .ret .next (env.set i (some (o && isLD v, v))) s := rfl
theorem ofV0_some {v : VV} : ofV0 (some v) env s = .ret v env s := rfl
theorem envO_some : envO (some env) s = .ret .next env s := rfl
theorem xsO_some {v : α} : xsO (some v) env s = .ret v env s := rfl
theorem callF_ret {v : VV} : callF (.ret v s) env = .ret v env s := rfl
theorem callF_exc {c : Nat} : callF (.exc c s) env = .exc c s := rfl
theorem callF_ite {c : Prop} [Decidable c] {a b : RF} : callF (if c then a else b) env = if c then callF a env else callF b env := by split <;> rfl
theorem opt0_some {o : Option Int} {k : Option Int → R0 VV} : opt0 (some o) k = k o := rfl
end
section
theorem cm_non  : calmE (.non : E) = (true) := by rfl
theorem vr_non  : varsE (.non : E) = ([]) := by rfl
theorem vo_non  : varOf (.non : E) = none := by rfl
theorem fc_non  : frC (.non : E) = false := by rfl
theorem cm_bl {b : Bool} : calmE (.bl b : E) = (true) := by rfl
theorem vr_bl {b : Bool} : varsE (.bl b : E) = ([]) := by rfl
theorem vo_bl {b : Bool} : varOf (.bl b : E) = none := by rfl
theorem fc_bl {b : Bool} : frC (.bl b : E) = false := by rfl
theorem cm_int {i : Int} : calmE (.int i : E) = (true) := by rfl
theorem vr_int {i : Int} : varsE (.int i : E) = ([]) := by rfl
theorem vo_int {i : Int} : varOf (.int i : E) = none := by rfl
theorem fc_int {i : Int} : frC (.int i : E) = false := by rfl
theorem cm_str {t : List Nat} : calmE (.str t : E) = (true) := by rfl
theorem vr_str {t : List Nat} : varsE (.str t : E) = ([]) := by rfl
theorem vo_str {t : List Nat} : varOf (.str t : E) = none := by rfl
theorem fc_str {t : List Nat} : frC (.str t : E) = false := by rfl
theorem cm_var {i : Nat} : calmE (.var i : E) = (true) := by rfl
theorem vr_var {i : Nat} : varsE (.var i : E) = ([i]) := by rfl
theorem vo_var {i : Nat} : varOf (.var i : E) = some i := by rfl
theorem fc_var {i : Nat} : frC (.var i : E) = false := by rfl
theorem cm_gc {i : Nat} : calmE (.gc i : E) = (true) := by rfl
theorem vr_gc {i : Nat} : varsE (.gc i : E) = ([]) := by rfl
theorem vo_gc {i : Nat} : varOf (.gc i : E) = none := by rfl
theorem fc_gc {i : Nat} : frC (.gc i : E) = false := by rfl
theorem cm_bin {op : BOp} {a b : E} : calmE (.bin op a b : E) = (calmE a && calmE b) := by rfl
theorem vr_bin {op : BOp} {a b : E} : varsE (.bin op a b : E) = (varsE a ++ varsE b) := by rfl
theorem vo_bin {op : BOp} {a b : E} : varOf (.bin op a b : E) = none := by rfl
theorem fc_bin {op : BOp} {a b : E} : frC (.bin op a b : E) = calmE (.bin op a b : E) := by rfl
theorem cm_neg {a : E} : calmE (.neg a : E) = (calmE a) := by rfl
theorem vr_neg {a : E} : varsE (.neg a : E) = (varsE a) := by rfl
theorem vo_neg {a : E} : varOf (.neg a : E) = none := by rfl
theorem fc_neg {a : E} : frC (.neg a : E) = false := by rfl
theorem cm_nt {a : E} : calmE (.nt a : E) = (calmE a) := by rfl
theorem vr_nt {a : E} : varsE (.nt a : E) = (varsE a) := by rfl
theorem vo_nt {a : E} : varOf (.nt a : E) = none := by rfl
theorem fc_nt {a : E} : frC (.nt a : E) = false := by rfl
theorem cm_and {es : List E} : calmE (.and es : E) = (calmEs es) := by rfl
theorem vr_and {es : List E} : varsE (.and es : E) = (varsEs es) := by rfl
theorem vo_and {es : List E} : varOf (.and es : E) = none := by rfl
theorem fc_and {es : List E} : frC (.and es : E) = false := by rfl
theorem cm_or {es : List E} : calmE (.or es : E) = (calmEs es) := by rfl
theorem vr_or {es : List E} : varsE (.or es : E) = (varsEs es) := by rfl
theorem vo_or {es : List E} : varOf (.or es : E) = none := by rfl
theorem fc_or {es : List E} : frC (.or es : E) = false := by rfl
theorem cm_cmp {op : COp} {a b : E} : calmE (.cmp op a b : E) = (calmE a && calmE b) := by rfl
theorem vr_cmp {op : COp} {a b : E} : varsE (.cmp op a b : E) = (varsE a ++ varsE b) := by rfl
theorem vo_cmp {op : COp} {a b : E} : varOf (.cmp op a b : E) = none := by rfl
theorem fc_cmp {op : COp} {a b : E} : frC (.cmp op a b : E) = false := by rfl
theorem cm_isN {n : Bool} {a : E} : calmE (.isN n a : E) = (calmE a) := by rfl
theorem vr_isN {n : Bool} {a : E} : varsE (.isN n a : E) = (varsE a) := by rfl
theorem vo_isN {n : Bool} {a : E} : varOf (.isN n a : E) = none := by rfl
theorem fc_isN {n : Bool} {a : E} : frC (.isN n a : E) = false := by rfl
theorem cm_isB {n : Bool} {a : E} {b : Bool} : calmE (.isB n a b : E) = (calmE a) := by rfl
theorem vr_isB {n : Bool} {a : E} {b : Bool} : varsE (.isB n a b : E) = (varsE a) := by rfl
theorem vo_isB {n : Bool} {a : E} {b : Bool} : varOf (.isB n a b : E) = none := by rfl
theorem fc_isB {n : Bool} {a : E} {b : Bool} : frC (.isB n a b : E) = false := by rfl
theorem cm_chain {p q : COp} {a b c : E} : calmE (.chain p q a b c : E) = (calmE a && calmE b && calmE c) := by rfl
theorem vr_chain {p q : COp} {a b c : E} : varsE (.chain p q a b c : E) = (varsE a ++ varsE b ++ varsE c) := by rfl
theorem vo_chain {p q : COp} {a b c : E} : varOf (.chain p q a b c : E) = none := by rfl
theorem fc_chain {p q : COp} {a b c : E} : frC (.chain p q a b c : E) = false := by rfl
theorem cm_ite {c a b : E} : calmE (.ite c a b : E) = (calmE c && calmE a && calmE b) := by rfl
theorem vr_ite {c a b : E} : varsE (.ite c a b : E) = (varsE c ++ varsE a ++ varsE b) := by rfl
theorem vo_ite {c a b : E} : varOf (.ite c a b : E) = none := by rfl
theorem fc_ite {c a b : E} : frC (.ite c a b : E) = false := by rfl
theorem cm_tup {es : List E} : calmE (.tup es : E) = (calmEs es) := by rfl
theorem vr_tup {es : List E} : varsE (.tup es : E) = (varsEs es) := by rfl
theorem vo_tup {es : List E} : varOf (.tup es : E) = none := by rfl
theorem fc_tup {es : List E} : frC (.tup es : E) = false := by rfl
theorem cm_lst {es : List E} : calmE (.lst es : E) = (calmEs es) := by rfl
theorem vr_lst {es : List E} : varsE (.lst es : E) = (varsEs es) := by rfl
theorem vo_lst {es : List E} : varOf (.lst es : E) = none := by rfl
theorem fc_lst {es : List E} : frC (.lst es : E) = calmE (.lst es : E) := by rfl
theorem cm_dct {n : Bool} {ks vs : List E} : calmE (.dct n ks vs : E) = calmEs ks := by rfl
theorem vr_dct {n : Bool} {ks vs : List E} : varsE (.dct n ks vs : E) = varsEs ks := by rfl
theorem vo_dct {n : Bool} {ks vs : List E} : varOf (.dct n ks vs : E) = none := by rfl
theorem fc_dct {n : Bool} {ks vs : List E} : frC (.dct n ks vs : E) = calmEs ks := by show (true && calmEs ks) = _; rw [Bool.true_and]
theorem cm_idx {a i : E} : calmE (.idx a i : E) = (calmE a && calmE i) := by rfl
theorem vr_idx {a i : E} : varsE (.idx a i : E) = (varsE a ++ varsE i) := by rfl
theorem vo_idx {a i : E} : varOf (.idx a i : E) = none := by rfl
theorem fc_idx {a i : E} : frC (.idx a i : E) = false := by rfl
theorem cm_slice {a lo hi : E} : calmE (.slice a lo hi : E) = (calmE a && calmE lo && calmE hi) := by rfl
theorem vr_slice {a lo hi : E} : varsE (.slice a lo hi : E) = (varsE a ++ varsE lo ++ varsE hi) := by rfl
theorem vo_slice {a lo hi : E} : varOf (.slice a lo hi : E) = none := by rfl
theorem fc_slice {a lo hi : E} : frC (.slice a lo hi : E) = calmE (.slice a lo hi : E) := by rfl
theorem cm_rev {a : E} : calmE (.rev a : E) = (calmE a) := by rfl
theorem vr_rev {a : E} : varsE (.rev a : E) = (varsE a) := by rfl
theorem vo_rev {a : E} : varOf (.rev a : E) = none := by rfl
theorem fc_rev {a : E} : frC (.rev a : E) = calmE (.rev a : E) := by rfl
theorem cm_call {f : Nat} {es : List E} : calmE (.call f es : E) = (calmEs es) := by rfl
theorem vr_call {f : Nat} {es : List E} : varsE (.call f es : E) = (varsEs es) := by rfl
theorem vo_call {f : Nat} {es : List E} : varOf (.call f es : E) = none := by rfl
theorem fc_call {f : Nat} {es : List E} : frC (.call f es : E) = false := by rfl
theorem cm_bi {b : Bi} {es : List E} : calmE (.bi b es : E) = (calmEs es) := by rfl
theorem vr_bi {b : Bi} {es : List E} : varsE (.bi b es : E) = (varsEs es) := by rfl
theorem vo_bi {b : Bi} {es : List E} : varOf (.bi b es : E) = none := by rfl
theorem cm_isinst {a : E} {t : Ty} : calmE (.isinst a t : E) = (calmE a) := by rfl
theorem vr_isinst {a : E} {t : Ty} : varsE (.isinst a t : E) = (varsE a) := by rfl
theorem vo_isinst {a : E} {t : Ty} : varOf (.isinst a t : E) = none := by rfl
theorem fc_isinst {a : E} {t : Ty} : frC (.isinst a t : E) = false := by rfl
theorem cm_comp {e it : E} {tg : Tg} {ts : List E} {own : List Nat} : calmE (.comp e tg it ts own : E) = (calmE e && calmE it && calmEs ts) := by rfl
theorem vr_comp {e it : E} {tg : Tg} {ts : List E} {own : List Nat} : varsE (.comp e tg it ts own : E) = (varsE e ++ varsE it ++ varsEs ts) := by rfl
theorem vo_comp {e it : E} {tg : Tg} {ts : List E} {own : List Nat} : varOf (.comp e tg it ts own : E) = none := by rfl
theorem fc_comp {e it : E} {tg : Tg} {ts : List E} {own : List Nat} : frC (.comp e tg it ts own : E) = calmE (.comp e tg it ts own : E) := by rfl
theorem fc_list {es : List E} : frC (.bi .list es) = calmEs es := by rfl
theorem fc_listRange {es : List E} : frC (.bi .listRange es) = calmEs es := by rfl
theorem fc_sorted {es : List E} : frC (.bi .sorted es) = calmEs es := by rfl
theorem fc_len {es : List E} : frC (.bi .len es) = false := by rfl
theorem fc_tuple {es : List E} : frC (.bi .tuple es) = false := by rfl
theorem fc_all {es : List E} : frC (.bi .all es) = false := by rfl
theorem fc_min {es : List E} : frC (.bi .min es) = false := by rfl
theorem fc_max {es : List E} : frC (.bi .max es) = false := by rfl
theorem fc_sum {es : List E} : frC (.bi .sum es) = false := by rfl
theorem fc_set {es : List E} : frC (.bi .set es) = false := by rfl
theorem fc_strOf {es : List E} : frC (.bi .str es) = false := by rfl
theorem fc_dict {es : List E} : frC (.bi .dict es) = false := by rfl
theorem vr_indexL {o : E} {es : List E} : varsE (.mt .indexL o es) = varsE o ++ varsEs es := by rfl
theorem vo_indexL {o : E} {es : List E} : varOf (.mt .indexL o es) = none := by rfl
theorem fc_indexL {o : E} {es : List E} : frC (.mt .indexL o es) = false := by rfl
theorem cm_indexL {o : E} {es : List E} : calmE (.mt .indexL o es) = (calmE o && calmEs es) := by rfl
theorem vr_indexS {o : E} {es : List E} : varsE (.mt .indexS o es) = varsE o ++ varsEs es := by rfl
theorem vo_indexS {o : E} {es : List E} : varOf (.mt .indexS o es) = none := by rfl
theorem fc_indexS {o : E} {es : List E} : frC (.mt .indexS o es) = false := by rfl
theorem cm_indexS {o : E} {es : List E} : calmE (.mt .indexS o es) = (calmE o && calmEs es) := by rfl
theorem vr_join {o : E} {es : List E} : varsE (.mt .join o es) = varsE o ++ varsEs es := by rfl
theorem vo_join {o : E} {es : List E} : varOf (.mt .join o es) = none := by rfl
theorem fc_join {o : E} {es : List E} : frC (.mt .join o es) = false := by rfl
theorem cm_join {o : E} {es : List E} : calmE (.mt .join o es) = (calmE o && calmEs es) := by rfl
theorem vr_split {o : E} {es : List E} : varsE (.mt .split o es) = varsE o ++ varsEs es := by rfl
theorem vo_split {o : E} {es : List E} : varOf (.mt .split o es) = none := by rfl
theorem fc_split {o : E} {es : List E} : frC (.mt .split o es) = false := by rfl
theorem cm_split {o : E} {es : List E} : calmE (.mt .split o es) = (calmE o && calmEs es) := by rfl
theorem vr_countL {o : E} {es : List E} : varsE (.mt .countL o es) = varsE o ++ varsEs es := by rfl
theorem vo_countL {o : E} {es : List E} : varOf (.mt .countL o es) = none := by rfl
theorem fc_countL {o : E} {es : List E} : frC (.mt .countL o es) = false := by rfl
theorem cm_countL {o : E} {es : List E} : calmE (.mt .countL o es) = (calmE o && calmEs es) := by rfl
theorem vr_get {o : E} {es : List E} : varsE (.mt .get o es) = varsE o ++ varsEs es := by rfl
theorem vo_get {o : E} {es : List E} : varOf (.mt .get o es) = none := by rfl
theorem fc_get {o : E} {es : List E} : frC (.mt .get o es) = false := by rfl
theorem cm_get {o : E} {es : List E} : calmE (.mt .get o es) = (calmE o && calmEs es) := by rfl
theorem vr_setdefault {o : E} {es : List E} : varsE (.mt .setdefault o es) = varsE o ++ varsEs es := by rfl
theorem vo_setdefault {o : E} {es : List E} : varOf (.mt .setdefault o es) = none := by rfl
theorem fc_setdefault {o : E} {es : List E} : frC (.mt .setdefault o es) = false := by rfl
theorem cm_setdefault {o : E} {es : List E} : calmE (.mt .setdefault o es) = (calmE o && calmEs es) := by rfl
theorem vr_remove {o : E} {es : List E} : varsE (.mt .remove o es) = varsE o ++ varsEs es := by rfl
theorem vo_remove {o : E} {es : List E} : varOf (.mt .remove o es) = none := by rfl
theorem fc_remove {o : E} {es : List E} : frC (.mt .remove o es) = false := by rfl
theorem cm_remove {o : E} {es : List E} : calmE (.mt .remove o es) = (calmE o && calmEs es) := by rfl
theorem vr_append {o : E} {es : List E} : varsE (.mt .append o es) = varsE o ++ varsEs es := by rfl
theorem vo_append {o : E} {es : List E} : varOf (.mt .append o es) = none := by rfl
theorem fc_append {o : E} {es : List E} : frC (.mt .append o es) = false := by rfl
theorem cm_append {o : E} {es : List E} : calmE (.mt .append o es) = false := by rfl
theorem vr_pop {o : E} {es : List E} : varsE (.mt .pop o es) = varsE o ++ varsEs es := by rfl
theorem vo_pop {o : E} {es : List E} : varOf (.mt .pop o es) = none := by rfl
theorem fc_pop {o : E} {es : List E} : frC (.mt .pop o es) = false := by rfl
theorem cm_pop {o : E} {es : List E} : calmE (.mt .pop o es) = false := by rfl
theorem cm_src {a : E} : calmE (.src a) = calmE a := by rfl
theorem cm_enum {a : E} : calmE (.enum a) = calmE a := by rfl
theorem cm_zip {a b : E} : calmE (.zip a b) = (calmE a && calmE b) := by rfl
theorem cm_range {es : List E} : calmE (.range es) = calmEs es := by rfl
theorem vr_src {a : E} : varsE (.src a) = varsE a := by rfl
theorem vr_enum {a : E} : varsE (.enum a) = varsE a := by rfl
theorem vr_zip {a b : E} : varsE (.zip a b) = varsE a ++ varsE b := by rfl
theorem vr_range {es : List E} : varsE (.range es) = varsEs es := by rfl
theorem cm_nil : calmEs [] = true := by rfl
theorem cm_cons {e : E} {es : List E} : calmEs (e :: es) = (calmE e && calmEs es) := by rfl
theorem vr_nil : varsEs [] = [] := by rfl
theorem vr_cons {e : E} {es : List E} : varsEs (e :: es) = varsE e ++ varsEs es := by rfl
theorem ld_non : isLD .non = false := by rfl
theorem ld_bl {b : Bool} : isLD (.bl b) = false := by rfl
theorem ld_int {i : Int} : isLD (.int i) = false := by rfl
theorem ld_str {t : List Nat} : isLD (.str t) = false := by rfl
theorem ld_tup {xs : List VV} : isLD (.tup xs) = false := by rfl
theorem ld_lst {xs : List VV} : isLD (.lst xs) = true := by rfl
theorem ld_dic {xs : List (VV × VV)} : isLD (.dic xs) = true := by rfl
theorem ld_exc {c : Nat} : isLD (.exc c) = false := by rfl
end
section
variable (cs : List VV) (call : Call0) (wf : Nat)
def evB (e : E) (env : Env0) (s : Drw) : R0 VV := borrow e env s (ev cs call e env s)
def kNeg (v : VV) (env : Env0) (s : Drw) : R0 VV := ofV0 (neg0 v) env s
def kNot (v : VV) (env : Env0) (s : Drw) : R0 VV := ofV0 (not0 v) env s
def kAnd (es : List E) (v : VV) (env : Env0) (s : Drw) : R0 VV := ifV v env s (fun env s => evAnd0 cs call es env s) fun env s => .ret (.bl false) env s
def kOr (es : List E) (v : VV) (env : Env0) (s : Drw) : R0 VV := ifV v env s (fun env s => .ret (.bl true) env s) fun env s => evOr0 cs call es env s
def kCmp2 (op : COp) (v w : VV) (env : Env0) (s : Drw) : R0 VV := ofV0 (cmpV op v w) env s
def kCmp1 (op : COp) (b : E) (v : VV) (env : Env0) (s : Drw) : R0 VV := (evB cs call b env s).bind (kCmp2 op v)
def kBin2 (op : BOp) (v w : VV) (env : Env0) (s : Drw) : R0 VV := ofV0 (binV op v w) env s
def kBin1 (op : BOp) (b : E) (v : VV) (env : Env0) (s : Drw) : R0 VV := (evB cs call b env s).bind (kBin2 op v)
def kIsN (neg : Bool) (v : VV) (env : Env0) (s : Drw) : R0 VV := .ret (isN0 neg v) env s
def kIsB (neg b : Bool) (v : VV) (env : Env0) (s : Drw) : R0 VV := ofV0 (isB0 neg b v) env s
def kCh4 (q : COp) (w u : VV) (env : Env0) (s : Drw) : R0 VV := ofV0 (cmpV q w u) env s
def kCh3 (q : COp) (c : E) (w x : VV) (env : Env0) (s : Drw) : R0 VV := ifV x env s (fun env s => (ev cs call c env s).bind (kCh4 q w)) fun env s => .ret (.bl false) env s
def kCh2 (p q : COp) (c : E) (v w : VV) (env : Env0) (s : Drw) : R0 VV := (ofV0 (cmpV p v w) env s).bind (kCh3 cs call q c w)
def kCh1 (p q : COp) (b c : E) (v : VV) (env : Env0) (s : Drw) : R0 VV := (ev cs call b env s).bind (kCh2 cs call p q c v)
def kIte (a b : E) (v : VV) (env : Env0) (s : Drw) : R0 VV := ifV v env s (fun env s => ev cs call a env s) fun env s => ev cs call b env s
def kTup (vs : List VV) (env : Env0) (s : Drw) : R0 VV := if le' vs.length SL = true then .ret (.tup vs) env s else .fail
def kLst (vs : List VV) (env : Env0) (s : Drw) : R0 VV := if le' vs.length SL = true then .ret (.lst vs) env s else .fail
def kIdx2 (v w : VV) (env : Env0) (s : Drw) : R0 VV := ofV0 (idxV v w) env s
def kIdx1 (i : E) (v : VV) (env : Env0) (s : Drw) : R0 VV := (ev cs call i env s).bind (kIdx2 v)
def kSl3 (hi : E) (v : VV) (l' : Option Int) (u : VV) (env : Env0) (s : Drw) : R0 VV := opt0 (part0 hi u) fun u' => ofV0 (sliceV v l' u') env s
def kSl2 (lo hi : E) (v l : VV) (env : Env0) (s : Drw) : R0 VV := opt0 (part0 lo l) fun l' => (ev cs call hi env s).bind (kSl3 hi v l')
def kSl1 (lo hi : E) (v : VV) (env : Env0) (s : Drw) : R0 VV := (ev cs call lo env s).bind (kSl2 cs call lo hi v)
def kRev (v : VV) (env : Env0) (s : Drw) : R0 VV := ofV0 (revV v) env s
def kCall (f : Nat) (vs : List VV) (env : Env0) (s : Drw) : R0 VV := callF (call f vs s) env
def kBi (b : Bi) (vs : List VV) (env : Env0) (s : Drw) : R0 VV := ofV0 (biV b vs) env s
def kApp (i : Nat) (vs : List VV) (env : Env0) (s : Drw) : R0 VV := match vs with
  | [v] => app0 i v env s
  | _ => .fail
def kMt2 (m : Mt) (v : VV) (vs : List VV) (env : Env0) (s : Drw) : R0 VV := ofV0 (mtV m v vs) env s
def kMt (m : Mt) (args : List E) (v : VV) (env : Env0) (s : Drw) : R0 VV := if tyM0 m v = true then (evs cs call args env s).bind (kMt2 m v) else .fail
def kIsi (t : Ty) (v : VV) (env : Env0) (s : Drw) : R0 VV := ofV0 (bO (isinVT v t)) env s
def kDct (ws : List VV) (env : Env0) (s : Drw) : R0 VV := ofV0 (dispV (pairUp0 ws)) env s
def tF (ifs : List E) (env : Env0) (s : Drw) : R0 Bool := evT cs call ifs env s
def eF (e : E) (env : Env0) (s : Drw) : R0 VV := ev cs call e env s
def kComp (elt : E) (tg : Tg) (ifs : List E) (own : List Nat) (xs : List VV) (env : Env0) (s : Drw) : R0 VV :=
  lcR (shareV env (varsE elt ++ varsEs ifs)) (lc0 tg (wipe0 (hide (shareV env (varsE elt ++ varsEs ifs))) own) (tF cs call ifs) (eF cs call elt) [] xs s)
def kEs2 (v : VV) (vs : List VV) (env : Env0) (s : Drw) : R0 (List VV) := .ret (v :: vs) env s
def kEs (es : List E) (v : VV) (env : Env0) (s : Drw) : R0 (List VV) := (evs cs call es env s).bind (kEs2 v)
def kB1 (v : VV) (env : Env0) (s : Drw) : R0 (List VV) := .ret [v] env s
def kTru (v : VV) (env : Env0) (s : Drw) : R0 Bool := tru0 v env s
def kRg (vs : List VV) (env : Env0) (s : Drw) : R0 (List VV) := xsO (rangeV vs) env s
def kEnum (v : VV) (env : Env0) (s : Drw) : R0 (List VV) := xsO ((itmV v).map (enumV 0)) env s
def kSrc (v : VV) (env : Env0) (s : Drw) : R0 (List VV) := xsO (itmV v) env s
def kZip2 (v w : VV) (env : Env0) (s : Drw) : R0 (List VV) := match itmV v, itmV w with
  | some xs, some ys => .ret (zipV xs ys) env s
  | _, _ => .fail
def kZip (b : E) (v : VV) (env : Env0) (s : Drw) : R0 (List VV) := (ev cs call b env s).bind (kZip2 v)
def kAsg (t : Tg) (o : Bool) (v : VV) (env : Env0) (s : Drw) : RS := asgF t o v env s
def kP2 (b : Bool) (v : VV) (vs : List (Bool × VV)) (env : Env0) (s : Drw) : R0 (List (Bool × VV)) := .ret ((b, v) :: vs) env s
def kP1 (b : Bool) (es : List E) (v : VV) (env : Env0) (s : Drw) : R0 (List (Bool × VV)) := (evP cs call es env s).bind (kP2 b v)
def kPar (is : List Nat) (vs : List (Bool × VV)) (env : Env0) (s : Drw) : RS := envO (setP is vs env) s
def kSeti2 (j : Nat) (v k : VV) (env : Env0) (s : Drw) : RS := seti0 j k v env s
def kSeti (j : Nat) (i : E) (v : VV) (env : Env0) (s : Drw) : RS := if ownsX env j = true then (ev cs call i env s).bind (kSeti2 j v) else .fail
def kAug (op : BOp) (i : Nat) (w : VV) (env : Env0) (s : Drw) : RS := augW op i w env s
def kExpr (v : VV) (env : Env0) (s : Drw) : RS := .ret .next env s
def kRet (v : VV) (env : Env0) (s : Drw) : RS := .ret (.ret v) env s
def kIfe (a b : List S) (v : VV) (env : Env0) (s : Drw) : RS := ifV v env s (fun env s => x0s cs call wf a env s) fun env s => x0s cs call wf b env s
def bF (body : List S) (env : Env0) (s : Drw) : RS := x0s cs call wf body env s
def cF (c : E) (env : Env0) (s : Drw) : R0 Bool := (ev cs call c env s).bind kTru
def kFor (t : Tg) (body : List S) (xs : List VV) (env : Env0) (s : Drw) : RS := for0 t (bF cs call wf body) xs env s
def kS (r : List S) (f : Fl0) (env : Env0) (s : Drw) : RS := seq0 f env s fun env s => x0s cs call wf r env s
end
section
variable {cs : List VV} {call : Call0} {wf : Nat} {env : Env0} {s : Drw}
theorem evB_var {i : Nat} : evB cs call (.var i) env s = peekV env i s := rfl
theorem evB_ev {e : E} (h : varOf e = none) : evB cs call e env s = ev cs call e env s := by
  show (match varOf e with | some i => peekV env i s | none => _) = _
  rw [h]
theorem q_non : ev cs call .non env s = .ret .non env s := rfl
theorem q_bl {b : Bool} : ev cs call (.bl b) env s = .ret (.bl b) env s := rfl
theorem q_int {i : Int} : ev cs call (.int i) env s = .ret (.int i) env s := rfl
theorem q_str {t : List Nat} : ev cs call (.str t) env s = .ret (.str t) env s := rfl
theorem q_var {i : Nat} : ev cs call (.var i) env s = readV env i s := rfl
theorem q_gc {i : Nat} : ev cs call (.gc i) env s = ofV0 cs[i]? env s := rfl
theorem q_neg {a : E} : ev cs call (.neg a) env s = (ev cs call a env s).bind kNeg := rfl
theorem q_nt {a : E} : ev cs call (.nt a) env s = (ev cs call a env s).bind kNot := rfl
theorem q_bin {op : BOp} {a b : E} (h : calmE b = true) : ev cs call (.bin op a b) env s = (evB cs call a env s).bind (kBin1 cs call op b) := by
  show (if calmE b = true then _ else _) = _
  rw [if_pos h]
  rfl
theorem q_cmp {op : COp} {a b : E} (h : calmE b = true) : ev cs call (.cmp op a b) env s = (evB cs call a env s).bind (kCmp1 cs call op b) := by
  show (if calmE b = true then _ else _) = _
  rw [if_pos h]
  rfl
theorem q_and {es : List E} : ev cs call (.and es) env s = evAnd0 cs call es env s := rfl
theorem q_or {es : List E} : ev cs call (.or es) env s = evOr0 cs call es env s := rfl
theorem q_and1 {e : E} : evAnd0 cs call [e] env s = ev cs call e env s := rfl
theorem q_and2 {e f : E} {es : List E} : evAnd0 cs call (e :: f :: es) env s = (ev cs call e env s).bind (kAnd cs call (f :: es)) := rfl
theorem q_or1 {e : E} : evOr0 cs call [e] env s = ev cs call e env s := rfl
theorem q_or2 {e f : E} {es : List E} : evOr0 cs call (e :: f :: es) env s = (ev cs call e env s).bind (kOr cs call (f :: es)) := rfl
theorem q_kAnd {es : List E} {b : Bool} : kAnd cs call es (.bl b) env s = if b = true then evAnd0 cs call es env s else .ret (.bl false) env s := by cases b <;> rfl
theorem q_kOr {es : List E} {b : Bool} : kOr cs call es (.bl b) env s = if b = true then .ret (.bl true) env s else evOr0 cs call es env s := by cases b <;> rfl
theorem q_isN {neg : Bool} {a : E} : ev cs call (.isN neg a) env s = (ev cs call a env s).bind (kIsN neg) := rfl
theorem q_isB {neg b : Bool} {a : E} : ev cs call (.isB neg a b) env s = (ev cs call a env s).bind (kIsB neg b) := rfl
theorem q_chain {p q : COp} {a b c : E} : ev cs call (.chain p q a b c) env s = (ev cs call a env s).bind (kCh1 cs call p q b c) := rfl
theorem q_kCh3 {q : COp} {c : E} {w : VV} {b : Bool} : kCh3 cs call q c w (.bl b) env s = if b = true then (ev cs call c env s).bind (kCh4 q w) else .ret (.bl false) env s := by cases b <;> rfl
theorem q_ite {c a b : E} : ev cs call (.ite c a b) env s = (ev cs call c env s).bind (kIte cs call a b) := rfl
theorem q_kIte {a b : E} {c : Bool} : kIte cs call a b (.bl c) env s = if c = true then ev cs call a env s else ev cs call b env s := by cases c <;> rfl
theorem q_tup {es : List E} : ev cs call (.tup es) env s = (evs cs call es env s).bind kTup := rfl
theorem q_lst {es : List E} : ev cs call (.lst es) env s = (evs cs call es env s).bind kLst := rfl
theorem kTup_n0 : kTup [] env s = .ret (.tup []) env s := by rfl
theorem kTup_n1 {a0 : VV} : kTup [a0] env s = .ret (.tup [a0]) env s := by rfl
theorem kTup_n2 {a0 a1 : VV} : kTup [a0, a1] env s = .ret (.tup [a0, a1]) env s := by rfl
theorem kTup_n3 {a0 a1 a2 : VV} : kTup [a0, a1, a2] env s = .ret (.tup [a0, a1, a2]) env s := by rfl
theorem kTup_n4 {a0 a1 a2 a3 : VV} : kTup [a0, a1, a2, a3] env s = .ret (.tup [a0, a1, a2, a3]) env s := by rfl
theorem kTup_n5 {a0 a1 a2 a3 a4 : VV} : kTup [a0, a1, a2, a3, a4] env s = .ret (.tup [a0, a1, a2, a3, a4]) env s := by rfl
theorem kTup_n6 {a0 a1 a2 a3 a4 a5 : VV} : kTup [a0, a1, a2, a3, a4, a5] env s = .ret (.tup [a0, a1, a2, a3, a4, a5]) env s := by rfl
theorem kTup_n7 {a0 a1 a2 a3 a4 a5 a6 : VV} : kTup [a0, a1, a2, a3, a4, a5, a6] env s = .ret (.tup [a0, a1, a2, a3, a4, a5, a6]) env s := by rfl
theorem kTup_n8 {a0 a1 a2 a3 a4 a5 a6 a7 : VV} : kTup [a0, a1, a2, a3, a4, a5, a6, a7] env s = .ret (.tup [a0, a1, a2, a3, a4, a5, a6, a7]) env s := by rfl
theorem kTup_n9 {a0 a1 a2 a3 a4 a5 a6 a7 a8 : VV} : kTup [a0, a1, a2, a3, a4, a5, a6, a7, a8] env s = .ret (.tup [a0, a1, a2, a3, a4, a5, a6, a7, a8]) env s := by rfl
theorem kTup_n10 {a0 a1 a2 a3 a4 a5 a6 a7 a8 a9 : VV} : kTup [a0, a1, a2, a3, a4, a5, a6, a7, a8, a9] env s = .ret (.tup [a0, a1, a2, a3, a4, a5, a6, a7, a8, a9]) env s := by rfl
theorem kTup_n11 {a0 a1 a2 a3 a4 a5 a6 a7 a8 a9 a10 : VV} : kTup [a0, a1, a2, a3, a4, a5, a6, a7, a8, a9, a10] env s = .ret (.tup [a0, a1, a2, a3, a4, a5, a6, a7, a8, a9, a10]) env s := by rfl
theorem kTup_n12 {a0 a1 a2 a3 a4 a5 a6 a7 a8 a9 a10 a11 : VV} : kTup [a0, a1, a2, a3, a4, a5, a6, a7, a8, a9, a10, a11] env s = .ret (.tup [a0, a1, a2, a3, a4, a5, a6, a7, a8, a9, a10, a11]) env s := by rfl
theorem kTup_n13 {a0 a1 a2 a3 a4 a5 a6 a7 a8 a9 a10 a11 a12 : VV} : kTup [a0, a1, a2, a3, a4, a5, a6, a7, a8, a9, a10, a11, a12] env s = .ret (.tup [a0, a1, a2, a3, a4, a5, a6, a7, a8, a9, a10, a11, a12]) env s := by rfl
theorem kTup_n14 {a0 a1 a2 a3 a4 a5 a6 a7 a8 a9 a10 a11 a12 a13 : VV} : kTup [a0, a1, a2, a3, a4, a5, a6, a7, a8, a9, a10, a11, a12, a13] env s = .ret (.tup [a0, a1, a2, a3, a4, a5, a6, a7, a8, a9, a10, a11, a12, a13]) env s := by rfl
theorem kTup_n15 {a0 a1 a2 a3 a4 a5 a6 a7 a8 a9 a10 a11 a12 a13 a14 : VV} : kTup [a0, a1, a2, a3, a4, a5, a6, a7, a8, a9, a10, a11, a12, a13, a14] env s = .ret (.tup [a0, a1, a2, a3, a4, a5, a6, a7, a8, a9, a10, a11, a12, a13, a14]) env s := by rfl
theorem kTup_n16 {a0 a1 a2 a3 a4 a5 a6 a7 a8 a9 a10 a11 a12 a13 a14 a15 : VV} : kTup [a0, a1, a2, a3, a4, a5, a6, a7, a8, a9, a10, a11, a12, a13, a14, a15] env s = .ret (.tup [a0, a1, a2, a3, a4, a5, a6, a7, a8, a9, a10, a11, a12, a13, a14, a15]) env s := by rfl
theorem kTup_n17 {a0 a1 a2 a3 a4 a5 a6 a7 a8 a9 a10 a11 a12 a13 a14 a15 a16 : VV} : kTup [a0, a1, a2, a3, a4, a5, a6, a7, a8, a9, a10, a11, a12, a13, a14, a15, a16] env s = .ret (.tup [a0, a1, a2, a3, a4, a5, a6, a7, a8, a9, a10, a11, a12, a13, a14, a15, a16]) env s := by rfl
theorem kTup_n18 {a0 a1 a2 a3 a4 a5 a6 a7 a8 a9 a10 a11 a12 a13 a14 a15 a16 a17 : VV} : kTup [a0, a1, a2, a3, a4, a5, a6, a7, a8, a9, a10, a11, a12, a13, a14, a15, a16, a17] env s = .ret (.tup [a0, a1, a2, a3, a4, a5, a6, a7, a8, a9, a10, a11, a12, a13, a14, a15, a16, a17]) env s := by rfl
theorem kTup_n19 {a0 a1 a2 a3 a4 a5 a6 a7 a8 a9 a10 a11 a12 a13 a14 a15 a16 a17 a18 : VV} : kTup [a0, a1, a2, a3, a4, a5, a6, a7, a8, a9, a10, a11, a12, a13, a14, a15, a16, a17, a18] env s = .ret (.tup [a0, a1, a2, a3, a4, a5, a6, a7, a8, a9, a10, a11, a12, a13, a14, a15, a16, a17, a18]) env s := by rfl
theorem kTup_n20 {a0 a1 a2 a3 a4 a5 a6 a7 a8 a9 a10 a11 a12 a13 a14 a15 a16 a17 a18 a19 : VV} : kTup [a0, a1, a2, a3, a4, a5, a6, a7, a8, a9, a10, a11, a12, a13, a14, a15, a16, a17, a18, a19] env s = .ret (.tup [a0, a1, a2, a3, a4, a5, a6, a7, a8, a9, a10, a11, a12, a13, a14, a15, a16, a17, a18, a19]) env s := by rfl
theorem kTup_n21 {a0 a1 a2 a3 a4 a5 a6 a7 a8 a9 a10 a11 a12 a13 a14 a15 a16 a17 a18 a19 a20 : VV} : kTup [a0, a1, a2, a3, a4, a5, a6, a7, a8, a9, a10, a11, a12, a13, a14, a15, a16, a17, a18, a19, a20] env s = .ret (.tup [a0, a1, a2, a3, a4, a5, a6, a7, a8, a9, a10, a11, a12, a13, a14, a15, a16, a17, a18, a19, a20]) env s := by rfl
theorem kTup_n22 {a0 a1 a2 a3 a4 a5 a6 a7 a8 a9 a10 a11 a12 a13 a14 a15 a16 a17 a18 a19 a20 a21 : VV} : kTup [a0, a1, a2, a3, a4, a5, a6, a7, a8, a9, a10, a11, a12, a13, a14, a15, a16, a17, a18, a19, a20, a21] env s = .ret (.tup [a0, a1, a2, a3, a4, a5, a6, a7, a8, a9, a10, a11, a12, a13, a14, a15, a16, a17, a18, a19, a20, a21]) env s := by rfl
theorem kTup_n23 {a0 a1 a2 a3 a4 a5 a6 a7 a8 a9 a10 a11 a12 a13 a14 a15 a16 a17 a18 a19 a20 a21 a22 : VV} : kTup [a0, a1, a2, a3, a4, a5, a6, a7, a8, a9, a10, a11, a12, a13, a14, a15, a16, a17, a18, a19, a20, a21, a22] env s = .ret (.tup [a0, a1, a2, a3, a4, a5, a6, a7, a8, a9, a10, a11, a12, a13, a14, a15, a16, a17, a18, a19, a20, a21, a22]) env s := by rfl
theorem kTup_n24 {a0 a1 a2 a3 a4 a5 a6 a7 a8 a9 a10 a11 a12 a13 a14 a15 a16 a17 a18 a19 a20 a21 a22 a23 : VV} : kTup [a0, a1, a2, a3, a4, a5, a6, a7, a8, a9, a10, a11, a12, a13, a14, a15, a16, a17, a18, a19, a20, a21, a22, a23] env s = .ret (.tup [a0, a1, a2, a3, a4, a5, a6, a7, a8, a9, a10, a11, a12, a13, a14, a15, a16, a17, a18, a19, a20, a21, a22, a23]) env s := by rfl
theorem kTup_n25 {a0 a1 a2 a3 a4 a5 a6 a7 a8 a9 a10 a11 a12 a13 a14 a15 a16 a17 a18 a19 a20 a21 a22 a23 a24 : VV} : kTup [a0, a1, a2, a3, a4, a5, a6, a7, a8, a9, a10, a11, a12, a13, a14, a15, a16, a17, a18, a19, a20, a21, a22, a23, a24] env s = .ret (.tup [a0, a1, a2, a3, a4, a5, a6, a7, a8, a9, a10, a11, a12, a13, a14, a15, a16, a17, a18, a19, a20, a21, a22, a23, a24]) env s := by rfl
theorem kTup_n26 {a0 a1 a2 a3 a4 a5 a6 a7 a8 a9 a10 a11 a12 a13 a14 a15 a16 a17 a18 a19 a20 a21 a22 a23 a24 a25 : VV} : kTup [a0, a1, a2, a3, a4, a5, a6, a7, a8, a9, a10, a11, a12, a13, a14, a15, a16, a17, a18, a19, a20, a21, a22, a23, a24, a25] env s = .ret (.tup [a0, a1, a2, a3, a4, a5, a6, a7, a8, a9, a10, a11, a12, a13, a14, a15, a16, a17, a18, a19, a20, a21, a22, a23, a24, a25]) env s := by rfl
theorem kTup_n27 {a0 a1 a2 a3 a4 a5 a6 a7 a8 a9 a10 a11 a12 a13 a14 a15 a16 a17 a18 a19 a20 a21 a22 a23 a24 a25 a26 : VV} : kTup [a0, a1, a2, a3, a4, a5, a6, a7, a8, a9, a10, a11, a12, a13, a14, a15, a16, a17, a18, a19, a20, a21, a22, a23, a24, a25, a26] env s = .ret (.tup [a0, a1, a2, a3, a4, a5, a6, a7, a8, a9, a10, a11, a12, a13, a14, a15, a16, a17, a18, a19, a20, a21, a22, a23, a24, a25, a26]) env s := by rfl
theorem kTup_n28 {a0 a1 a2 a3 a4 a5 a6 a7 a8 a9 a10 a11 a12 a13 a14 a15 a16 a17 a18 a19 a20 a21 a22 a23 a24 a25 a26 a27 : VV} : kTup [a0, a1, a2, a3, a4, a5, a6, a7, a8, a9, a10, a11, a12, a13, a14, a15, a16, a17, a18, a19, a20, a21, a22, a23, a24, a25, a26, a27] env s = .ret (.tup [a0, a1, a2, a3, a4, a5, a6, a7, a8, a9, a10, a11, a12, a13, a14, a15, a16, a17, a18, a19, a20, a21, a22, a23, a24, a25, a26, a27]) env s := by rfl
theorem kTup_n29 {a0 a1 a2 a3 a4 a5 a6 a7 a8 a9 a10 a11 a12 a13 a14 a15 a16 a17 a18 a19 a20 a21 a22 a23 a24 a25 a26 a27 a28 : VV} : kTup [a0, a1, a2, a3, a4, a5, a6, a7, a8, a9, a10, a11, a12, a13, a14, a15, a16, a17, a18, a19, a20, a21, a22, a23, a24, a25, a26, a27, a28] env s = .ret (.tup [a0, a1, a2, a3, a4, a5, a6, a7, a8, a9, a10, a11, a12, a13, a14, a15, a16, a17, a18, a19, a20, a21, a22, a23, a24, a25, a26, a27, a28]) env s := by rfl
theorem kTup_n30 {a0 a1 a2 a3 a4 a5 a6 a7 a8 a9 a10 a11 a12 a13 a14 a15 a16 a17 a18 a19 a20 a21 a22 a23 a24 a25 a26 a27 a28 a29 : VV} : kTup [a0, a1, a2, a3, a4, a5, a6, a7, a8, a9, a10, a11, a12, a13, a14, a15, a16, a17, a18, a19, a20, a21, a22, a23, a24, a25, a26, a27, a28, a29] env s = .ret (.tup [a0, a1, a2, a3, a4, a5, a6, a7, a8, a9, a10, a11, a12, a13, a14, a15, a16, a17, a18, a19, a20, a21, a22, a23, a24, a25, a26, a27, a28, a29]) env s := by rfl
theorem kTup_n31 {a0 a1 a2 a3 a4 a5 a6 a7 a8 a9 a10 a11 a12 a13 a14 a15 a16 a17 a18 a19 a20 a21 a22 a23 a24 a25 a26 a27 a28 a29 a30 : VV} : kTup [a0, a1, a2, a3, a4, a5, a6, a7, a8, a9, a10, a11, a12, a13, a14, a15, a16, a17, a18, a19, a20, a21, a22, a23, a24, a25, a26, a27, a28, a29, a30] env s = .ret (.tup [a0, a1, a2, a3, a4, a5, a6, a7, a8, a9, a10, a11, a12, a13, a14, a15, a16, a17, a18, a19, a20, a21, a22, a23, a24, a25, a26, a27, a28, a29, a30]) env s := by rfl
theorem kTup_n32 {a0 a1 a2 a3 a4 a5 a6 a7 a8 a9 a10 a11 a12 a13 a14 a15 a16 a17 a18 a19 a20 a21 a22 a23 a24 a25 a26 a27 a28 a29 a30 a31 : VV} : kTup [a0, a1, a2, a3, a4, a5, a6, a7, a8, a9, a10, a11, a12, a13, a14, a15, a16, a17, a18, a19, a20, a21, a22, a23, a24, a25, a26, a27, a28, a29, a30, a31] env s = .ret (.tup [a0, a1, a2, a3, a4, a5, a6, a7, a8, a9, a10, a11, a12, a13, a14, a15, a16, a17, a18, a19, a20, a21, a22, a23, a24, a25, a26, a27, a28, a29, a30, a31]) env s := by rfl
theorem kLst_n0 : kLst [] env s = .ret (.lst []) env s := by rfl
theorem kLst_n1 {a0 : VV} : kLst [a0] env s = .ret (.lst [a0]) env s := by rfl
theorem kLst_n2 {a0 a1 : VV} : kLst [a0, a1] env s = .ret (.lst [a0, a1]) env s := by rfl
theorem kLst_n3 {a0 a1 a2 : VV} : kLst [a0, a1, a2] env s = .ret (.lst [a0, a1, a2]) env s := by rfl
theorem kLst_n4 {a0 a1 a2 a3 : VV} : kLst [a0, a1, a2, a3] env s = .ret (.lst [a0, a1, a2, a3]) env s := by rfl
theorem kLst_n5 {a0 a1 a2 a3 a4 : VV} : kLst [a0, a1, a2, a3, a4] env s = .ret (.lst [a0, a1, a2, a3, a4]) env s := by rfl
theorem kLst_n6 {a0 a1 a2 a3 a4 a5 : VV} : kLst [a0, a1, a2, a3, a4, a5] env s = .ret (.lst [a0, a1, a2, a3, a4, a5]) env s := by rfl
theorem kLst_n7 {a0 a1 a2 a3 a4 a5 a6 : VV} : kLst [a0, a1, a2, a3, a4, a5, a6] env s = .ret (.lst [a0, a1, a2, a3, a4, a5, a6]) env s := by rfl
theorem kLst_n8 {a0 a1 a2 a3 a4 a5 a6 a7 : VV} : kLst [a0, a1, a2, a3, a4, a5, a6, a7] env s = .ret (.lst [a0, a1, a2, a3, a4, a5, a6, a7]) env s := by rfl
theorem kLst_n9 {a0 a1 a2 a3 a4 a5 a6 a7 a8 : VV} : kLst [a0, a1, a2, a3, a4, a5, a6, a7, a8] env s = .ret (.lst [a0, a1, a2, a3, a4, a5, a6, a7, a8]) env s := by rfl
theorem kLst_n10 {a0 a1 a2 a3 a4 a5 a6 a7 a8 a9 : VV} : kLst [a0, a1, a2, a3, a4, a5, a6, a7, a8, a9] env s = .ret (.lst [a0, a1, a2, a3, a4, a5, a6, a7, a8, a9]) env s := by rfl
theorem kLst_n11 {a0 a1 a2 a3 a4 a5 a6 a7 a8 a9 a10 : VV} : kLst [a0, a1, a2, a3, a4, a5, a6, a7, a8, a9, a10] env s = .ret (.lst [a0, a1, a2, a3, a4, a5, a6, a7, a8, a9, a10]) env s := by rfl
theorem kLst_n12 {a0 a1 a2 a3 a4 a5 a6 a7 a8 a9 a10 a11 : VV} : kLst [a0, a1, a2, a3, a4, a5, a6, a7, a8, a9, a10, a11] env s = .ret (.lst [a0, a1, a2, a3, a4, a5, a6, a7, a8, a9, a10, a11]) env s := by rfl
theorem kLst_n13 {a0 a1 a2 a3 a4 a5 a6 a7 a8 a9 a10 a11 a12 : VV} : kLst [a0, a1, a2, a3, a4, a5, a6, a7, a8, a9, a10, a11, a12] env s = .ret (.lst [a0, a1, a2, a3, a4, a5, a6, a7, a8, a9, a10, a11, a12]) env s := by rfl
theorem kLst_n14 {a0 a1 a2 a3 a4 a5 a6 a7 a8 a9 a10 a11 a12 a13 : VV} : kLst [a0, a1, a2, a3, a4, a5, a6, a7, a8, a9, a10, a11, a12, a13] env s = .ret (.lst [a0, a1, a2, a3, a4, a5, a6, a7, a8, a9, a10, a11, a12, a13]) env s := by rfl
theorem kLst_n15 {a0 a1 a2 a3 a4 a5 a6 a7 a8 a9 a10 a11 a12 a13 a14 : VV} : kLst [a0, a1, a2, a3, a4, a5, a6, a7, a8, a9, a10, a11, a12, a13, a14] env s = .ret (.lst [a0, a1, a2, a3, a4, a5, a6, a7, a8, a9, a10, a11, a12, a13, a14]) env s := by rfl
theorem kLst_n16 {a0 a1 a2 a3 a4 a5 a6 a7 a8 a9 a10 a11 a12 a13 a14 a15 : VV} : kLst [a0, a1, a2, a3, a4, a5, a6, a7, a8, a9, a10, a11, a12, a13, a14, a15] env s = .ret (.lst [a0, a1, a2, a3, a4, a5, a6, a7, a8, a9, a10, a11, a12, a13, a14, a15]) env s := by rfl
theorem kLst_n17 {a0 a1 a2 a3 a4 a5 a6 a7 a8 a9 a10 a11 a12 a13 a14 a15 a16 : VV} : kLst [a0, a1, a2, a3, a4, a5, a6, a7, a8, a9, a10, a11, a12, a13, a14, a15, a16] env s = .ret (.lst [a0, a1, a2, a3, a4, a5, a6, a7, a8, a9, a10, a11, a12, a13, a14, a15, a16]) env s := by rfl
theorem kLst_n18 {a0 a1 a2 a3 a4 a5 a6 a7 a8 a9 a10 a11 a12 a13 a14 a15 a16 a17 : VV} : kLst [a0, a1, a2, a3, a4, a5, a6, a7, a8, a9, a10, a11, a12, a13, a14, a15, a16, a17] env s = .ret (.lst [a0, a1, a2, a3, a4, a5, a6, a7, a8, a9, a10, a11, a12, a13, a14, a15, a16, a17]) env s := by rfl
theorem kLst_n19 {a0 a1 a2 a3 a4 a5 a6 a7 a8 a9 a10 a11 a12 a13 a14 a15 a16 a17 a18 : VV} : kLst [a0, a1, a2, a3, a4, a5, a6, a7, a8, a9, a10, a11, a12, a13, a14, a15, a16, a17, a18] env s = .ret (.lst [a0, a1, a2, a3, a4, a5, a6, a7, a8, a9, a10, a11, a12, a13, a14, a15, a16, a17, a18]) env s := by rfl
theorem kLst_n20 {a0 a1 a2 a3 a4 a5 a6 a7 a8 a9 a10 a11 a12 a13 a14 a15 a16 a17 a18 a19 : VV} : kLst [a0, a1, a2, a3, a4, a5, a6, a7, a8, a9, a10, a11, a12, a13, a14, a15, a16, a17, a18, a19] env s = .ret (.lst [a0, a1, a2, a3, a4, a5, a6, a7, a8, a9, a10, a11, a12, a13, a14, a15, a16, a17, a18, a19]) env s := by rfl
theorem kLst_n21 {a0 a1 a2 a3 a4 a5 a6 a7 a8 a9 a10 a11 a12 a13 a14 a15 a16 a17 a18 a19 a20 : VV} : kLst [a0, a1, a2, a3, a4, a5, a6, a7, a8, a9, a10, a11, a12, a13, a14, a15, a16, a17, a18, a19, a20] env s = .ret (.lst [a0, a1, a2, a3, a4, a5, a6, a7, a8, a9, a10, a11, a12, a13, a14, a15, a16, a17, a18, a19, a20]) env s := by rfl
theorem kLst_n22 {a0 a1 a2 a3 a4 a5 a6 a7 a8 a9 a10 a11 a12 a13 a14 a15 a16 a17 a18 a19 a20 a21 : VV} : kLst [a0, a1, a2, a3, a4, a5, a6, a7, a8, a9, a10, a11, a12, a13, a14, a15, a16, a17, a18, a19, a20, a21] env s = .ret (.lst [a0, a1, a2, a3, a4, a5, a6, a7, a8, a9, a10, a11, a12, a13, a14, a15, a16, a17, a18, a19, a20, a21]) env s := by rfl
theorem kLst_n23 {a0 a1 a2 a3 a4 a5 a6 a7 a8 a9 a10 a11 a12 a13 a14 a15 a16 a17 a18 a19 a20 a21 a22 : VV} : kLst [a0, a1, a2, a3, a4, a5, a6, a7, a8, a9, a10, a11, a12, a13, a14, a15, a16, a17, a18, a19, a20, a21, a22] env s = .ret (.lst [a0, a1, a2, a3, a4, a5, a6, a7, a8, a9, a10, a11, a12, a13, a14, a15, a16, a17, a18, a19, a20, a21, a22]) env s := by rfl
theorem kLst_n24 {a0 a1 a2 a3 a4 a5 a6 a7 a8 a9 a10 a11 a12 a13 a14 a15 a16 a17 a18 a19 a20 a21 a22 a23 : VV} : kLst [a0, a1, a2, a3, a4, a5, a6, a7, a8, a9, a10, a11, a12, a13, a14, a15, a16, a17, a18, a19, a20, a21, a22, a23] env s = .ret (.lst [a0, a1, a2, a3, a4, a5, a6, a7, a8, a9, a10, a11, a12, a13, a14, a15, a16, a17, a18, a19, a20, a21, a22, a23]) env s := by rfl
theorem kLst_n25 {a0 a1 a2 a3 a4 a5 a6 a7 a8 a9 a10 a11 a12 a13 a14 a15 a16 a17 a18 a19 a20 a21 a22 a23 a24 : VV} : kLst [a0, a1, a2, a3, a4, a5, a6, a7, a8, a9, a10, a11, a12, a13, a14, a15, a16, a17, a18, a19, a20, a21, a22, a23, a24] env s = .ret (.lst [a0, a1, a2, a3, a4, a5, a6, a7, a8, a9, a10, a11, a12, a13, a14, a15, a16, a17, a18, a19, a20, a21, a22, a23, a24]) env s := by rfl
theorem kLst_n26 {a0 a1 a2 a3 a4 a5 a6 a7 a8 a9 a10 a11 a12 a13 a14 a15 a16 a17 a18 a19 a20 a21 a22 a23 a24 a25 : VV} : kLst [a0, a1, a2, a3, a4, a5, a6, a7, a8, a9, a10, a11, a12, a13, a14, a15, a16, a17, a18, a19, a20, a21, a22, a23, a24, a25] env s = .ret (.lst [a0, a1, a2, a3, a4, a5, a6, a7, a8, a9, a10, a11, a12, a13, a14, a15, a16, a17, a18, a19, a20, a21, a22, a23, a24, a25]) env s := by rfl
theorem kLst_n27 {a0 a1 a2 a3 a4 a5 a6 a7 a8 a9 a10 a11 a12 a13 a14 a15 a16 a17 a18 a19 a20 a21 a22 a23 a24 a25 a26 : VV} : kLst [a0, a1, a2, a3, a4, a5, a6, a7, a8, a9, a10, a11, a12, a13, a14, a15, a16, a17, a18, a19, a20, a21, a22, a23, a24, a25, a26] env s = .ret (.lst [a0, a1, a2, a3, a4, a5, a6, a7, a8, a9, a10, a11, a12, a13, a14, a15, a16, a17, a18, a19, a20, a21, a22, a23, a24, a25, a26]) env s := by rfl
theorem kLst_n28 {a0 a1 a2 a3 a4 a5 a6 a7 a8 a9 a10 a11 a12 a13 a14 a15 a16 a17 a18 a19 a20 a21 a22 a23 a24 a25 a26 a27 : VV} : kLst [a0, a1, a2, a3, a4, a5, a6, a7, a8, a9, a10, a11, a12, a13, a14, a15, a16, a17, a18, a19, a20, a21, a22, a23, a24, a25, a26, a27] env s = .ret (.lst [a0, a1, a2, a3, a4, a5, a6, a7, a8, a9, a10, a11, a12, a13, a14, a15, a16, a17, a18, a19, a20, a21, a22, a23, a24, a25, a26, a27]) env s := by rfl
theorem kLst_n29 {a0 a1 a2 a3 a4 a5 a6 a7 a8 a9 a10 a11 a12 a13 a14 a15 a16 a17 a18 a19 a20 a21 a22 a23 a24 a25 a26 a27 a28 : VV} : kLst [a0, a1, a2, a3, a4, a5, a6, a7, a8, a9, a10, a11, a12, a13, a14, a15, a16, a17, a18, a19, a20, a21, a22, a23, a24, a25, a26, a27, a28] env s = .ret (.lst [a0, a1, a2, a3, a4, a5, a6, a7, a8, a9, a10, a11, a12, a13, a14, a15, a16, a17, a18, a19, a20, a21, a22, a23, a24, a25, a26, a27, a28]) env s := by rfl
theorem kLst_n30 {a0 a1 a2 a3 a4 a5 a6 a7 a8 a9 a10 a11 a12 a13 a14 a15 a16 a17 a18 a19 a20 a21 a22 a23 a24 a25 a26 a27 a28 a29 : VV} : kLst [a0, a1, a2, a3, a4, a5, a6, a7, a8, a9, a10, a11, a12, a13, a14, a15, a16, a17, a18, a19, a20, a21, a22, a23, a24, a25, a26, a27, a28, a29] env s = .ret (.lst [a0, a1, a2, a3, a4, a5, a6, a7, a8, a9, a10, a11, a12, a13, a14, a15, a16, a17, a18, a19, a20, a21, a22, a23, a24, a25, a26, a27, a28, a29]) env s := by rfl
theorem kLst_n31 {a0 a1 a2 a3 a4 a5 a6 a7 a8 a9 a10 a11 a12 a13 a14 a15 a16 a17 a18 a19 a20 a21 a22 a23 a24 a25 a26 a27 a28 a29 a30 : VV} : kLst [a0, a1, a2, a3, a4, a5, a6, a7, a8, a9, a10, a11, a12, a13, a14, a15, a16, a17, a18, a19, a20, a21, a22, a23, a24, a25, a26, a27, a28, a29, a30] env s = .ret (.lst [a0, a1, a2, a3, a4, a5, a6, a7, a8, a9, a10, a11, a12, a13, a14, a15, a16, a17, a18, a19, a20, a21, a22, a23, a24, a25, a26, a27, a28, a29, a30]) env s := by rfl
theorem kLst_n32 {a0 a1 a2 a3 a4 a5 a6 a7 a8 a9 a10 a11 a12 a13 a14 a15 a16 a17 a18 a19 a20 a21 a22 a23 a24 a25 a26 a27 a28 a29 a30 a31 : VV} : kLst [a0, a1, a2, a3, a4, a5, a6, a7, a8, a9, a10, a11, a12, a13, a14, a15, a16, a17, a18, a19, a20, a21, a22, a23, a24, a25, a26, a27, a28, a29, a30, a31] env s = .ret (.lst [a0, a1, a2, a3, a4, a5, a6, a7, a8, a9, a10, a11, a12, a13, a14, a15, a16, a17, a18, a19, a20, a21, a22, a23, a24, a25, a26, a27, a28, a29, a30, a31]) env s := by rfl
theorem q_kTup {vs : List VV} (h : vs.length ≤ SL) : kTup vs env s = .ret (.tup vs) env s := if_pos (Nat.ble_eq_true_of_le h)
theorem q_kLst {vs : List VV} (h : vs.length ≤ SL) : kLst vs env s = .ret (.lst vs) env s := if_pos (Nat.ble_eq_true_of_le h)
theorem q_dct : ev cs call (.dct false [] []) env s = .ret (.dic []) env s := rfl
theorem q_dctK {k : E} {ks vs : List E} : ev cs call (.dct false (k :: ks) vs) env s = (evs cs call (k :: ks) env s).bind kDct := rfl
theorem isinVT_int {v : VV} : isinVT v .int = isinV v .int := by rfl
theorem isinVT_bool {v : VV} : isinVT v .bool = isinV v .bool := by rfl
theorem isinVT_str {v : VV} : isinVT v .str = isinV v .str := by rfl
theorem isinVT_list {v : VV} : isinVT v .list = isinV v .list := by rfl
theorem isinVT_tuple {v : VV} : isinVT v .tuple = isinV v .tuple := by rfl
theorem isinVT_cls {c d n : Nat} : isinVT (.exc c) (.cls d n) = if Nat.blt c n = true then some (isaE c d) else none := by rfl
theorem q_idx {a i : E} (h : calmE i = true) : ev cs call (.idx a i) env s = (evB cs call a env s).bind (kIdx1 cs call i) := by
  show (if calmE i = true then _ else _) = _
  rw [if_pos h]
  rfl
theorem q_slice {a lo hi : E} (h : (calmE lo && calmE hi) = true) : ev cs call (.slice a lo hi) env s = (evB cs call a env s).bind (kSl1 cs call lo hi) := by
  show (if (calmE lo && calmE hi) = true then _ else _) = _
  rw [if_pos h]
  rfl
theorem q_rev {a : E} : ev cs call (.rev a) env s = (evB cs call a env s).bind kRev := rfl
theorem q_call {f : Nat} {args : List E} : ev cs call (.call f args) env s = (evs cs call args env s).bind (kCall call f) := rfl
theorem q_bi {b : Bi} {args : List E} : ev cs call (.bi b args) env s = (evBs cs call args env s).bind (kBi b) := rfl
theorem q_append {i : Nat} {args : List E} : ev cs call (.mt .append (.var i) args) env s = if ownsL env i = true then (evs cs call args env s).bind (kApp i) else .fail := by rfl
theorem q_kApp {i : Nat} {v : VV} : kApp i [v] env s = app0 i v env s := rfl
theorem q_app0 {i : Nat} {v : VV} {xs : List VV} (h : env[i]? = some (some (true, .lst xs))) (hl : xs.length < SL) : app0 i v env s = .ret .non (env.set i (some (true, .lst (xs ++ [v])))) s := by
  unfold app0
  rw [h]
  exact if_pos (Nat.ble_eq_true_of_le hl)
theorem q_pop {i : Nat} : ev cs call (.mt .pop (.var i) []) env s = pop0 i env s := rfl
theorem q_join {o : E} {args : List E} : ev cs call (.mt .join o args) env s = (ev cs call o env s).bind (kMt cs call .join args) := rfl
theorem q_split {o : E} {args : List E} : ev cs call (.mt .split o args) env s = (ev cs call o env s).bind (kMt cs call .split args) := rfl
theorem q_countL {o : E} {args : List E} : ev cs call (.mt .countL o args) env s = (ev cs call o env s).bind (kMt cs call .countL args) := rfl
theorem q_indexL {o : E} {args : List E} : ev cs call (.mt .indexL o args) env s = (ev cs call o env s).bind (kMt cs call .indexL args) := rfl
theorem q_indexS {o : E} {args : List E} : ev cs call (.mt .indexS o args) env s = (ev cs call o env s).bind (kMt cs call .indexS args) := rfl
theorem q_get {o : E} {args : List E} : ev cs call (.mt .get o args) env s = (ev cs call o env s).bind (kMt cs call .get args) := rfl
theorem q_isinst {a : E} {t : Ty} : ev cs call (.isinst a t) env s = (evB cs call a env s).bind (kIsi t) := rfl
theorem q_comp {elt it : E} {tg : Tg} {ifs : List E} {own : List Nat} (h : (calmE elt && calmEs ifs) = true) : ev cs call (.comp elt tg it ifs own) env s = (evI cs call it env s).bind (kComp cs call elt tg ifs own) := by
  show (if (calmE elt && calmEs ifs) = true then _ else _) = _
  rw [if_pos h]
  rfl
theorem q_evs0 : evs cs call [] env s = .ret [] env s := rfl
theorem q_evs {e : E} {es : List E} : evs cs call (e :: es) env s = (ev cs call e env s).bind (kEs cs call es) := rfl
theorem q_evBs0 : evBs cs call [] env s = .ret [] env s := rfl
theorem q_evBs1 {e : E} : evBs cs call [e] env s = (evB cs call e env s).bind kB1 := rfl
theorem q_evBs2 {e f : E} {es : List E} : evBs cs call (e :: f :: es) env s = (ev cs call e env s).bind (kEs cs call (f :: es)) := rfl
theorem q_evT0 : evT cs call [] env s = .ret true env s := rfl
theorem q_evT1 {e : E} : evT cs call [e] env s = (ev cs call e env s).bind kTru := rfl
theorem q_range {args : List E} : evI cs call (.range args) env s = (evs cs call args env s).bind kRg := rfl
theorem q_enum {a : E} : evI cs call (.enum a) env s = (ev cs call a env s).bind kEnum := rfl
theorem q_zip {a b : E} : evI cs call (.zip a b) env s = (ev cs call a env s).bind (kZip cs call b) := rfl
theorem q_src {a : E} : evI cs call (.src a) env s = (ev cs call a env s).bind kSrc := rfl
theorem q_tF {ifs : List E} : tF cs call ifs env s = evT cs call ifs env s := rfl
theorem q_eF {e : E} : eF cs call e env s = ev cs call e env s := rfl
theorem q_bF {body : List S} : bF cs call wf body env s = x0s cs call wf body env s := rfl
theorem q_cF {c : E} : cF cs call c env s = (ev cs call c env s).bind kTru := rfl
theorem q_asg {t : Tg} {e : E} : x0 cs call wf (.asg t e) env s = (ev cs call e env s).bind (kAsg t (frC e)) := rfl
theorem q_kAsg {i : Nat} {o : Bool} {v : VV} : kAsg (.name i) o v env s = .ret .next (env.set i (some (o && isLD v, v))) s := rfl
theorem q_kAsgT {ts : List Tg} {o : Bool} {v : VV} {e : Env0} (h : asgV (.tup ts) v env = some e) : kAsg (.tup ts) o v env s = .ret .next e s := by
  show (match asgV (.tup ts) v env with | some env => R0.ret Fl0.next env s | none => .fail) = _
  rw [h]
theorem q_kAsgU {ts : List Tg} {o : Bool} {v : VV} : kAsg (.tup ts) o v env s = envO (asgV (.tup ts) v env) s := by rfl
theorem q_par {is : List Nat} {es : List E} : x0 cs call wf (.par is es) env s = (evP cs call es env s).bind (kPar is) := rfl
theorem q_evP0 : evP cs call [] env s = .ret [] env s := rfl
theorem q_evP {e : E} {es : List E} : evP cs call (e :: es) env s = (ev cs call e env s).bind (kP1 cs call (isNil e) es) := rfl
theorem q_seti {j : Nat} {i e : E} (h : calmE i = true) : x0 cs call wf (.seti (.var j) i e) env s = (ev cs call e env s).bind (kSeti cs call j i) := by
  show (if calmE i = true then _ else _) = _
  rw [if_pos h]
  rfl
theorem q_kSeti {j : Nat} {i : E} {v : VV} : kSeti cs call j i v env s = if ownsX env j = true then (ev cs call i env s).bind (kSeti2 j v) else .fail := by rfl
theorem q_aug {i : Nat} {op : BOp} {e : E} (h : calmE e = true) : x0 cs call wf (.aug i op e) env s = if hasV env i = true then (evB cs call e env s).bind (kAug op i) else .fail := by
  show (if (calmE e && hasV env i) = true then _ else _) = _
  rw [h]
  rfl
theorem q_expr {e : E} : x0 cs call wf (.expr e) env s = (ev cs call e env s).bind kExpr := rfl
theorem q_ret {e : E} : x0 cs call wf (.ret e) env s = (ev cs call e env s).bind kRet := rfl
theorem q_retN : x0 cs call wf .retN env s = .ret (.ret .non) env s := rfl
theorem q_ife {c : E} {a b : List S} : x0 cs call wf (.ife c a b) env s = (ev cs call c env s).bind (kIfe cs call wf a b) := rfl
theorem q_kIfe {a b : List S} {c : Bool} : kIfe cs call wf a b (.bl c) env s = if c = true then x0s cs call wf a env s else x0s cs call wf b env s := by cases c <;> rfl
theorem q_for {t : Tg} {it : E} {body : List S} : x0 cs call wf (.for t it body) env s = (evI cs call it env s).bind (kFor cs call wf t body) := rfl
theorem q_while {c : E} {body : List S} : x0 cs call wf (.while c body) env s = while0 (cF cs call c) (bF cs call wf body) wf env s := rfl
theorem q_raise {c : Nat} : x0 cs call wf (.raise c) env s = .exc c s := rfl
theorem q_try {i : Option Nat} {e : E} {n m ne : Nat} : x0 cs call wf (.try_ i e n m ne) env s = try0 i n m ne env (ev cs call e env s) := rfl
theorem try0_some {i n m ne : Nat} {v : VV} {env2 : Env0} : try0 (some i) n m ne env (.ret v env2 s) = .ret .next (env2.set i (some (false, v))) s := rfl
theorem try0_none {n m ne : Nat} {v : VV} {env2 : Env0} : try0 none n m ne env (.ret v env2 s) = .ret .next env2 s := rfl
theorem try0_exc {i : Option Nat} {c n m ne : Nat} : try0 i n m ne env (.exc c s) = if Nat.blt c ne = true then .ret .next (((hide env).set m (some (false, .exc c))).set n none) s else .fail := rfl
theorem q_pass : x0 cs call wf .pass env s = .ret .next env s := rfl
theorem q_cont : x0 cs call wf .cont env s = .ret .cont env s := rfl
theorem q_x0 : x0s cs call wf [] env s = .ret .next env s := rfl
theorem q_x0s {st : S} {r : List S} : x0s cs call wf (st :: r) env s = (x0 cs call wf st env s).bind (kS cs call wf r) := rfl
theorem q_kS {r : List S} : kS cs call wf r .next env s = x0s cs call wf r env s := rfl
theorem q_kSr {r : List S} {v : VV} : kS cs call wf r (.ret v) env s = .ret (.ret v) env s := rfl
theorem q_kSc {r : List S} : kS cs call wf r .cont env s = .ret .cont env s := rfl
theorem q_kFor {t : Tg} {body : List S} {xs : List VV} : kFor cs call wf t body xs env s = for0 t (bF cs call wf body) xs env s := rfl
end
section
variable {α β : Type} {env env' : Env0} {s s' : Drw}
/-- what a turn hands on -/
def for0k (tg : Tg) (body : Env0 → Drw → RS) (vs : List VV) (f : Fl0) (env : Env0) (s : Drw) : RS := match f with
  | .next => for0 tg body vs env s
  | .cont => for0 tg body vs env s
  | .ret v => .ret (.ret v) env s
theorem for0k_next {tg : Tg} {body : Env0 → Drw → RS} {vs : List VV} : for0k tg body vs .next env s = for0 tg body vs env s := rfl
theorem for0k_cont {tg : Tg} {body : Env0 → Drw → RS} {vs : List VV} : for0k tg body vs .cont env s = for0 tg body vs env s := rfl
theorem for0k_ret {tg : Tg} {body : Env0 → Drw → RS} {vs : List VV} {v : VV} : for0k tg body vs (.ret v) env s = .ret (.ret v) env s := rfl
theorem for0_nil {tg : Tg} {body : Env0 → Drw → RS} : for0 tg body [] env s = .ret .next env s := rfl
theorem for0_name {i : Nat} {body : Env0 → Drw → RS} {v : VV} {vs : List VV} : for0 (.name i) body (v :: vs) env s = (body (env.set i (some (false, v))) s).bind (for0k (.name i) body vs) := rfl
theorem for0_tup {ts : List Tg} {body : Env0 → Drw → RS} {v : VV} {vs : List VV} {e : Env0} (h : asgV (.tup ts) v env = some e) : for0 (.tup ts) body (v :: vs) env s = (body e s).bind (for0k (.tup ts) body vs) := by
  show (match asgV (.tup ts) v env with | none => R0.fail | some env1 => _) = _
  rw [h]
  rfl
def while0k (c : Env0 → Drw → R0 Bool) (body : Env0 → Drw → RS) (m : Nat) (f : Fl0) (env : Env0) (s : Drw) : RS := match f with
  | .next => while0 c body m env s
  | .cont => while0 c body m env s
  | .ret v => .ret (.ret v) env s
theorem while0k_next {c : Env0 → Drw → R0 Bool} {body : Env0 → Drw → RS} {m : Nat} : while0k c body m .next env s = while0 c body m env s := rfl
theorem while0k_ret {c : Env0 → Drw → R0 Bool} {body : Env0 → Drw → RS} {m : Nat} {v : VV} : while0k c body m (.ret v) env s = .ret (.ret v) env s := rfl
theorem while0_go {c : Env0 → Drw → R0 Bool} {body : Env0 → Drw → RS} {m : Nat} (h : c env s = .ret true env' s') : while0 c body (m + 1) env s = (body env' s').bind (while0k c body m) := by
  show (c env s).bind _ = _
  rw [h]
  rfl
theorem while0_end {c : Env0 → Drw → R0 Bool} {body : Env0 → Drw → RS} {m : Nat} (h : c env s = .ret false env' s') : while0 c body (m + 1) env s = .ret .next env' s' := by
  show (c env s).bind _ = _
  rw [h]
  rfl
theorem lcR_some {xs : List VV} : lcR env (some (xs, s)) = .ret (.lst xs) env s := rfl
theorem okO_t {v : α} : okO true v = some v := rfl
theorem isN0_non {n : Bool} : isN0 n .non = .bl (!n) := by rfl
theorem isN0_bl {n b : Bool} : isN0 n (.bl b) = .bl n := by rfl
theorem isN0_int {n : Bool} {i : Int} : isN0 n (.int i) = .bl n := by rfl
theorem isN0_str {n : Bool} {i : List Nat} : isN0 n (.str i) = .bl n := by rfl
theorem isN0_tup {n : Bool} {i : List VV} : isN0 n (.tup i) = .bl n := by rfl
theorem isN0_lst {n : Bool} {i : List VV} : isN0 n (.lst i) = .bl n := by rfl
def hideO (o : Option (Bool × VV)) : Option (Bool × VV) := match o with
  | some (true, _) => none
  | o => o
/-- a shared slot, or an empty one -/
def sh (o : Option VV) : Option (Bool × VV) := o.map fun v => (false, v)
theorem hide_nil : hide [] = [] := by rfl
theorem hide_cons {o : Option (Bool × VV)} {e : Env0} : hide (o :: e) = hideO o :: hide e := by rfl
theorem hideO_none : hideO none = none := by rfl
theorem hideO_f {v : VV} : hideO (some (false, v)) = some (false, v) := by rfl
theorem hideO_t {v : VV} : hideO (some (true, v)) = none := by rfl
theorem hideO_sh {o : Option VV} : hideO (sh o) = sh o := by cases o <;> rfl
def shO (o : Option (Bool × VV)) : Option (Bool × VV) := match o with
  | some (_, v) => some (false, v)
  | none => none
def shAt (env : Env0) (i : Nat) (o : Option (Option (Bool × VV))) : Env0 := match o with
  | some o => env.set i (shO o)
  | none => env
theorem shO_none : shO none = none := by rfl
theorem shO_b {b : Bool} {v : VV} : shO (some (b, v)) = some (false, v) := by rfl
theorem shO_sh {o : Option VV} : shO (sh o) = sh o := by cases o <;> rfl
theorem shAt_some {env : Env0} {i : Nat} {o : Option (Bool × VV)} : shAt env i (some o) = env.set i (shO o) := by rfl
theorem shareV_nil {env : Env0} : shareV env [] = env := by rfl
theorem shareV_cons {env : Env0} {i : Nat} {is : List Nat} : shareV env (i :: is) = shareV (shAt env i env[i]?) is := by
  show (match env[i]? with | some (some (true, v)) => shareV (env.set i (some (false, v))) is | _ => shareV env is) = _
  cases e : env[i]? with
  | none => rfl
  | some o =>
    obtain ⟨hi, ei⟩ := List.getElem?_eq_some_iff.mp e
    match o, ei with
    | none, ei => show shareV env is = shareV (env.set i none) is; rw [← ei, List.set_getElem_self]
    | some (true, v), ei => rfl
    | some (false, v), ei => show shareV env is = shareV (env.set i (some (false, v))) is; rw [← ei, List.set_getElem_self]
/-- an owned slot, or an empty one -/
def ow (o : Option VV) : Option (Bool × VV) := o.map fun v => (true, v)
theorem hideO_ow {o : Option VV} : hideO (ow o) = none := by cases o <;> rfl
theorem ow_some {v : VV} : ow (some v) = some (true, v) := rfl
theorem sh_some {v : VV} : sh (some v) = some (false, v) := rfl
theorem part0_non {v : VV} : part0 .non v = some none := by rfl
theorem part0_int {i : Int} {j : Int} : part0 (.int i) (.int j) = some (some j) := by rfl
theorem part0_neg {a : E} {j : Int} : part0 (.neg a) (.int j) = some (some j) := by rfl
theorem part0_bi {b : Bi} {es : List E} {j : Int} : part0 (.bi b es) (.int j) = some (some j) := by rfl
theorem part0_idx {a i : E} {j : Int} : part0 (.idx a i) (.int j) = some (some j) := by rfl
theorem part0_var {i : Nat} {j : Int} : part0 (.var i) (.int j) = some (some j) := by rfl
theorem part0_bin {op : BOp} {a b : E} {j : Int} : part0 (.bin op a b) (.int j) = some (some j) := by rfl
theorem part0_call {f : Nat} {es : List E} {j : Int} : part0 (.call f es) (.int j) = some (some j) := by rfl
theorem part0_gc {i : Nat} {j : Int} : part0 (.gc i) (.int j) = some (some j) := by rfl
theorem le_t {a b : Nat} (h : a ≤ b) : le' a b = true := Nat.ble_eq_true_of_le h
theorem lc0_nil {tg : Tg} {envb : Env0} {tst : Env0 → Drw → R0 Bool} {elt : Env0 → Drw → R0 VV} {acc : List VV} : lc0 tg envb tst elt acc [] s = some (acc, s) := rfl
/-- one item that stays -/
theorem lc0_take {tg : Tg} {envb e e1 e2 : Env0} {tst : Env0 → Drw → R0 Bool} {elt : Env0 → Drw → R0 VV} {acc vs : List VV} {v u : VV} {s1 s2 : Drw} (h : asgV tg v envb = some e) (ht : tst e s = .ret true e1 s1) (he : elt e1 s1 = .ret u e2 s2) (hl : acc.length < SL) :
    lc0 tg envb tst elt acc (v :: vs) s = lc0 tg envb tst elt (acc ++ [u]) vs s2 := by
  show (match asgV tg v envb with | none => none | some env => _) = _
  rw [h]
  show (match tst e s with | .ret true env1 s1 => _ | .ret false _ s1 => _ | _ => none) = _
  rw [ht]
  show (match elt e1 s1 with | .ret u _ s2 => _ | _ => none) = _
  rw [he]
  show (if le' (acc.length + 1) SL = true then _ else none) = _
  rw [if_pos (le_t hl)]
theorem lc0_drop {tg : Tg} {envb e e1 : Env0} {tst : Env0 → Drw → R0 Bool} {elt : Env0 → Drw → R0 VV} {acc vs : List VV} {v : VV} {s1 : Drw} (h : asgV tg v envb = some e) (ht : tst e s = .ret false e1 s1) :
    lc0 tg envb tst elt acc (v :: vs) s = lc0 tg envb tst elt acc vs s1 := by
  show (match asgV tg v envb with | none => none | some env => _) = _
  rw [h]
  show (match tst e s with | .ret true env1 s1 => _ | .ret false _ s1 => _ | _ => none) = _
  rw [ht]
/-- a comprehension that neither draws nor stores -/
theorem lc0_pure {tg : Tg} {envb : Env0} {tst : Env0 → Drw → R0 Bool} {elt : Env0 → Drw → R0 VV} (p : VV → Bool) (f : VV → VV) :
    ∀ (xs acc : List VV), (∀ v ∈ xs, ∃ e e1, asgV tg v envb = some e ∧ tst e s = .ret (p v) e1 s ∧ (p v = true → ∃ e2, elt e1 s = .ret (f v) e2 s)) → acc.length + xs.length ≤ SL →
      lc0 tg envb tst elt acc xs s = some (acc ++ (xs.filter p).map f, s)
  | [], acc, _, _ => by rw [lc0_nil, List.filter_nil, List.map_nil, List.append_nil]
  | v :: vs, acc, h, hl => by
    obtain ⟨e, e1, h1, h2, h3⟩ := h v (List.mem_cons_self ..)
    rw [List.length_cons] at hl
    cases hp : p v with
    | true =>
      obtain ⟨e2, h4⟩ := h3 hp
      rw [hp] at h2
      rw [lc0_take h1 h2 h4 (by omega), lc0_pure p f vs _ (fun w hw => h w (List.mem_cons_of_mem _ hw)) (by rw [List.length_append, List.length_singleton]; omega), List.filter_cons_of_pos hp, List.map_cons, List.append_assoc]
      rfl
    | false =>
      rw [hp] at h2
      rw [lc0_drop h1 h2, lc0_pure p f vs _ (fun w hw => h w (List.mem_cons_of_mem _ hw)) (by omega), List.filter_cons_of_neg (by rw [hp]; exact Bool.false_ne_true)]
/-- .. without a test -/
theorem lc0_map {tg : Tg} {envb : Env0} {elt : Env0 → Drw → R0 VV} {tst : Env0 → Drw → R0 Bool} (f : VV → VV) (xs acc : List VV) (h : ∀ v ∈ xs, ∃ e e1, asgV tg v envb = some e ∧ tst e s = .ret true e1 s ∧ ∃ e2, elt e1 s = .ret (f v) e2 s) (hl : acc.length + xs.length ≤ SL) :
    lc0 tg envb tst elt acc xs s = some (acc ++ xs.map f, s) := by
  rw [lc0_pure (fun _ => true) f xs acc (fun v hv => by obtain ⟨e, e1, a, b, c⟩ := h v hv; exact ⟨e, e1, a, b, fun _ => c⟩) hl]
  congr 3
  rw [List.filter_eq_self.mpr fun _ _ => rfl]
theorem bls0_map {γ : Type} (g : γ → Bool) : ∀ xs : List γ, bls0 (xs.map fun x => .bl (g x)) = some (xs.map g)
  | [] => rfl
  | x :: xs => by show (bls0 _).map _ = _; rw [bls0_map g xs]; rfl
theorem allV_map {γ : Type} (g : γ → Bool) (xs : List γ) : allV (.lst (xs.map fun x => .bl (g x))) = some (.bl (xs.all g)) := by
  show (match bls0 _ with | some bs => some (VV.bl (bs.all id)) | none => none) = _
  rw [bls0_map]
  show some (VV.bl ((xs.map g).all id)) = _
  rw [List.all_map]
  rfl
end
end MP.Z

/-! == of values -/
namespace MP.Z
open PySem (PyData)
/-- no deeper than so, neither a dict nor the draws in it -/
def dep : Nat → VV → Bool
  | _, .non => true
  | _, .bl _ => true
  | _, .int _ => true
  | _, .str _ => true
  | 0, .tup _ => false
  | k + 1, .tup xs => xs.all (dep k)
  | 0, .lst _ => false
  | k + 1, .lst xs => xs.all (dep k)
  | _, .dic _ => false
  | _, .drw => false
  | _, .exc _ => false
mutual
def toDt : VV → PyData
  | .non => .none
  | .bl b => .bool b
  | .int i => .int i
  | .str s => .str ⟨s.toArray⟩
  | .tup xs => .tuple (toDts xs)
  | .lst xs => .list (toDts xs)
  | .dic _ => .none
  | .drw => .none
  | .exc _ => .none
def toDts : List VV → List PyData
  | [] => []
  | v :: vs => toDt v :: toDts vs
end
theorem mapO_some {α β : Type} {f : α → Option β} {g : α → β} : ∀ {xs : List α}, (∀ x ∈ xs, f x = some (g x)) → mapO f xs = some (xs.map g)
  | [], _ => rfl
  | x :: xs, h => by
    unfold mapO
    rw [h x (List.mem_cons_self ..), mapO_some fun y hy => h y (List.mem_cons_of_mem _ hy)]
    rfl
theorem toDts_map : ∀ xs : List VV, toDts xs = xs.map toDt
  | [] => rfl
  | v :: vs => by rw [toDts, toDts_map vs]; rfl
theorem toD0_dep : ∀ (k : Nat) (v : VV), dep k v = true → toD0 k v = some (toDt v)
  | k, .non, _ => by cases k <;> rfl
  | k, .bl _, _ => by cases k <;> rfl
  | k, .int _, _ => by cases k <;> rfl
  | k, .str _, _ => by cases k <;> rfl
  | 0, .tup _, h => by cases h
  | k + 1, .tup xs, h => by
    show (mapO (toD0 k) xs).map PyData.tuple = some (.tuple (toDts xs))
    rw [mapO_some fun x hx => toD0_dep k x (List.all_eq_true.mp h x hx), toDts_map]
    rfl
  | 0, .lst _, h => by cases h
  | k + 1, .lst xs, h => by
    show (mapO (toD0 k) xs).map PyData.list = some (.list (toDts xs))
    rw [mapO_some fun x hx => toD0_dep k x (List.all_eq_true.mp h x hx), toDts_map]
    rfl
  | k, .dic _, h => by cases k <;> cases h
  | k, .drw, h => by cases k <;> cases h
  | k, .exc _, h => by cases k <;> cases h
theorem dep_mono : ∀ (k : Nat) (v : VV), dep k v = true → dep (k + 1) v = true
  | k, .non, _ => by cases k <;> rfl
  | k, .bl _, _ => by cases k <;> rfl
  | k, .int _, _ => by cases k <;> rfl
  | k, .str _, _ => by cases k <;> rfl
  | 0, .tup _, h => by cases h
  | k + 1, .tup xs, h => List.all_eq_true.mpr fun x hx => dep_mono k x (List.all_eq_true.mp h x hx)
  | 0, .lst _, h => by cases h
  | k + 1, .lst xs, h => List.all_eq_true.mpr fun x hx => dep_mono k x (List.all_eq_true.mp h x hx)
  | k, .dic _, h => by cases k <;> cases h
  | k, .drw, h => by cases k <;> cases h
  | k, .exc _, h => by cases k <;> cases h
theorem dep_le {k m : Nat} {v : VV} (h : dep k v = true) (l : k ≤ m) : dep m v = true := by
  induction l with
  | refl => exact h
  | step _ ih => exact dep_mono _ _ ih
def eqW (v w : VV) : Bool := PyData.eqv (toDt v) (toDt w)
theorem eqV_dep {v w : VV} (h : dep 64 v = true) (h2 : dep 64 w = true) : eqV v w = some (eqW v w) := by
  unfold eqV
  rw [toD0_dep _ _ h, toD0_dep _ _ h2]
  rfl
mutual
theorem eqv_refl : ∀ v : VV, PyData.eqv (toDt v) (toDt v) = true
  | .non => rfl
  | .bl b => by show (b == b) = true; exact beq_self_eq_true b
  | .int i => by show (i == i) = true; exact beq_self_eq_true i
  | .str s => by show ((⟨s.toArray⟩ : PySem.Str) == ⟨s.toArray⟩) = true; exact beq_self_eq_true _
  | .tup xs => eqvs_refl xs
  | .lst xs => eqvs_refl xs
  | .dic _ => rfl
  | .drw => rfl
  | .exc _ => rfl
theorem eqvs_refl : ∀ vs : List VV, PyData.eqvAll (toDts vs) (toDts vs) = true
  | [] => rfl
  | v :: vs => by
    show (PyData.eqv (toDt v) (toDt v) && PyData.eqvAll (toDts vs) (toDts vs)) = true
    rw [eqv_refl v, eqvs_refl vs]
    rfl
end
theorem eqW_refl (v : VV) : eqW v v = true := eqv_refl v
theorem eqV_refl {v : VV} (h : dep 64 v = true) : eqV v v = some true := by rw [eqV_dep h h, eqW_refl]
/-! no bool in it -/
mutual
def noB : VV → Bool
  | .bl _ => false
  | .tup xs => noBs xs
  | .lst xs => noBs xs
  | .dic _ => false
  | .drw => false
  | .exc _ => false
  | _ => true
def noBs : List VV → Bool
  | [] => true
  | v :: vs => noB v && noBs vs
end
theorem str_eq {s t : List Nat} (h : ((⟨s.toArray⟩ : PySem.Str) == ⟨t.toArray⟩) = true) : s = t := by
  have e := eq_of_beq h
  injection e with e
  injection e
mutual
theorem eqW_eq : ∀ {v w : VV}, noB v = true → noB w = true → PyData.eqv (toDt v) (toDt w) = true → v = w
  | .non, w, _, h, e => by
    cases w with
    | non => rfl
    | bl b => cases h
    | int j => cases e
    | str t => cases e
    | tup ys => cases e
    | lst ys => cases e
    | dic d => cases h
    | drw => cases h
    | exc _ => cases h
  | .int i, w, _, h, e => by
    cases w with
    | non => cases e
    | bl b => cases h
    | int j => exact congrArg VV.int (eq_of_beq (a := i) (b := j) e)
    | str t => cases e
    | tup ys => cases e
    | lst ys => cases e
    | dic d => cases h
    | drw => cases h
    | exc _ => cases h
  | .str s, w, _, h, e => by
    cases w with
    | non => cases e
    | bl b => cases h
    | int j => cases e
    | str t => exact congrArg VV.str (str_eq (s := s) (t := t) e)
    | tup ys => cases e
    | lst ys => cases e
    | dic d => cases h
    | drw => cases h
    | exc _ => cases h
  | .tup xs, w, g, h, e => by
    cases w with
    | non => cases e
    | bl b => cases h
    | int j => cases e
    | str t => cases e
    | tup ys => exact congrArg VV.tup (eqWs_eq (vs := xs) (ws := ys) g h e)
    | lst ys => cases e
    | dic d => cases h
    | drw => cases h
    | exc _ => cases h
  | .lst xs, w, g, h, e => by
    cases w with
    | non => cases e
    | bl b => cases h
    | int j => cases e
    | str t => cases e
    | tup ys => cases e
    | lst ys => exact congrArg VV.lst (eqWs_eq (vs := xs) (ws := ys) g h e)
    | dic d => cases h
    | drw => cases h
    | exc _ => cases h
theorem eqWs_eq : ∀ {vs ws : List VV}, noBs vs = true → noBs ws = true → PyData.eqvAll (toDts vs) (toDts ws) = true → vs = ws
  | [], [], _, _, _ => rfl
  | [], _ :: _, _, _, e => by cases e
  | _ :: _, [], _, _, e => by cases e
  | v :: vs, w :: ws, g, h, e => by
    have e : (PyData.eqv (toDt v) (toDt w) && PyData.eqvAll (toDts vs) (toDts ws)) = true := e
    have g : (noB v && noBs vs) = true := g
    have h : (noB w && noBs ws) = true := h
    rw [Bool.and_eq_true] at e g h
    rw [eqW_eq g.1 h.1 e.1, eqWs_eq g.2 h.2 e.2]
end
theorem eqW_iff {v w : VV} (h : noB v = true) (h2 : noB w = true) : eqW v w = true ↔ v = w := ⟨eqW_eq h h2, fun e => by rw [e]; exact eqW_refl w⟩
theorem eqV_int {a b : Int} : eqV (.int a) (.int b) = some (decide (a = b)) := by
  rw [eqV_dep rfl rfl]
  congr 1
theorem eqV_str {a b : List Nat} : eqV (.str a) (.str b) = some (decide (a = b)) := by
  rw [eqV_dep rfl rfl]
  congr 1
  by_cases e : a = b
  · rw [e, decide_eq_true rfl]; exact eqW_refl _
  · rw [decide_eq_false e]
    cases q : eqW (.str a) (.str b) with
    | false => rfl
    | true => exact absurd (by have := eqW_eq (v := .str a) (w := .str b) rfl rfl q; injection this) e
theorem eqV_bl {a b : Bool} : eqV (.bl a) (.bl b) = some (a == b) := by rw [eqV_dep rfl rfl]; rfl
theorem eqV_nn : eqV .non .non = some true := by rw [eqV_dep rfl rfl]; rfl
theorem eqV_ns {t : List Nat} : eqV .non (.str t) = some false := by rw [eqV_dep rfl rfl]; rfl
theorem eqV_sn {t : List Nat} : eqV (.str t) .non = some false := by rw [eqV_dep rfl rfl]; rfl
theorem eqV_ni {i : Int} : eqV .non (.int i) = some false := by rw [eqV_dep rfl rfl]; rfl
theorem eqV_in {i : Int} : eqV (.int i) .non = some false := by rw [eqV_dep rfl rfl]; rfl
theorem eqV_is {i : Int} {t : List Nat} : eqV (.int i) (.str t) = some false := by rw [eqV_dep rfl rfl]; rfl
theorem eqV_si {i : Int} {t : List Nat} : eqV (.str t) (.int i) = some false := by rw [eqV_dep rfl rfl]; rfl
theorem eqV_lnil {xs : List VV} (h : xs.all (dep 63) = true) : eqV (.lst xs) (.lst []) = some xs.isEmpty := by
  rw [eqV_dep (v := .lst xs) (w := .lst []) h rfl]
  congr 1
  cases xs with
  | nil => rfl
  | cons x xs => rfl
/-! ### comprehensions that draw; ranges -/
theorem lc0_ex {tg : Tg} {envb : Env0} {tst : Env0 → Drw → R0 Bool} {elt : Env0 → Drw → R0 VV} (P : VV → VV → Prop) :
    ∀ (xs acc : List VV) (s : Drw), (∀ v ∈ xs, ∀ s, ∃ e e1, asgV tg v envb = some e ∧ tst e s = .ret true e1 s ∧ ∃ u e2 s2, elt e1 s = .ret u e2 s2 ∧ P v u) → acc.length + xs.length ≤ SL →
      ∃ us s', lc0 tg envb tst elt acc xs s = some (acc ++ us, s') ∧ us.length = xs.length ∧ (∀ u ∈ us, ∃ v ∈ xs, P v u) ∧ ∀ i (h : i < xs.length) (h2 : i < us.length), P xs[i] us[i]
  | [], acc, s, _, _ => ⟨[], s, by rw [lc0_nil, List.append_nil], rfl, fun u h => absurd h (List.not_mem_nil), fun i h => absurd h (Nat.not_lt_zero _)⟩
  | v :: vs, acc, s, h, hl => by
    obtain ⟨e, e1, h1, h2, u, e2, s2, h3, hp⟩ := h v (List.mem_cons_self ..) s
    rw [List.length_cons] at hl
    obtain ⟨us, s', a, b, c, d⟩ := lc0_ex P vs (acc ++ [u]) s2 (fun w hw => h w (List.mem_cons_of_mem _ hw)) (by rw [List.length_append, List.length_singleton]; omega)
    refine ⟨u :: us, s', ?_, by rw [List.length_cons, List.length_cons, b], fun x hx => ?_, fun i hi hi2 => ?_⟩
    · rw [lc0_take h1 h2 h3 (by omega), a, List.append_assoc]
      rfl
    · rcases List.mem_cons.mp hx with rfl | hx
      · exact ⟨v, List.mem_cons_self .., hp⟩
      · obtain ⟨y, hy, q⟩ := c x hx
        exact ⟨y, List.mem_cons_of_mem _ hy, q⟩
    · cases i with
      | zero => exact hp
      | succ i => exact d i (Nat.lt_of_succ_lt_succ hi) (Nat.lt_of_succ_lt_succ hi2)
def natV (i : Nat) : VV := .int i
theorem rangeI0_map : ∀ (n : Nat) (a : Nat), rangeI0 n a 1 = (List.range n).map fun i => natV (a + i)
  | 0, _ => rfl
  | n + 1, a => by
    rw [List.range_succ_eq_map, List.map_cons, List.map_map]
    have e : (fun i : Nat => natV (a + i)) ∘ Nat.succ = fun i : Nat => natV (a + 1 + i) := by
      funext i
      show natV (a + (i + 1)) = _
      congr 1
      omega
    rw [e, ← rangeI0_map n (a + 1)]
    rfl
theorem rangeV_nat {n : Nat} (h : n < 1000000) : rangeV [.int n] = some ((List.range n).map natV) := by
  have hs : small62 (n : Int) = true := by
    unfold small62
    rw [Bool.and_eq_true]
    exact ⟨decide_eq_true (by omega), decide_eq_true (by omega)⟩
  have e : rangeV [.int n] = okO (small62 (n : Int)) (rangeI0 (n : Int).toNat 0 1) := rfl
  have h0 : rangeI0 n 0 1 = (List.range n).map fun i => natV (0 + i) := rangeI0_map n 0
  have h1 : (fun i : Nat => natV (0 + i)) = natV := by
    funext i
    rw [Nat.zero_add]
  rw [e, hs, Int.toNat_natCast, h0, h1]
  rfl
theorem xsO_range {n : Nat} (h : n < 1000000) {env : Env0} {s : Drw} : xsO (rangeV [.int n]) env s = .ret ((List.range n).map natV) env s := by rw [rangeV_nat h]; rfl
theorem at'_nat {α : Type} {xs : List α} {i : Nat} : at' xs (i : Int) = xs[i]? := by
  unfold at'
  rw [if_pos (Int.natCast_nonneg _), Int.toNat_natCast]
theorem biV_len {v : VV} : biV .len [v] = lenV v := by rfl
theorem biV_list {v : VV} : biV .list [v] = listV v := by rfl
theorem biV_tuple {v : VV} : biV .tuple [v] = tupleV v := by rfl
theorem biV_sorted {v : VV} : biV .sorted [v] = sortedV v := by rfl
theorem biV_all {v : VV} : biV .all [v] = allV v := by rfl
theorem biV_sum {v : VV} : biV .sum [v] = sumV v := by rfl
theorem biV_str {v : VV} : biV .str [v] = strV v := by rfl
theorem biV_min {vs : List VV} : biV .min vs = minV vs := by rfl
theorem biV_max {vs : List VV} : biV .max vs = maxV vs := by rfl
def lrO (o : Option (List VV)) : Option VV := match o with
  | some xs => okO (le' xs.length SL) (.lst xs)
  | none => none
theorem biV_lr (vs : List VV) : biV .listRange vs = lrO (rangeV vs) := rfl
theorem lrO_some {xs : List VV} (h : xs.length ≤ SL) : lrO (some xs) = some (.lst xs) := by
  show okO (le' xs.length SL) (VV.lst xs) = _
  rw [le_t h]
  rfl
theorem biV_listRange {n : Nat} (h : n < 1000000) : biV .listRange [.int n] = some (.lst ((List.range n).map natV)) := by
  rw [biV_lr, rangeV_nat h, lrO_some (by rw [List.length_map, List.length_range]; unfold SL; omega)]
theorem asgV_name {i : Nat} {v : VV} {env : Env0} : asgV (.name i) v env = some (env.set i (some (false, v))) := rfl
theorem strs0_map {γ : Type} (g : γ → List Nat) : ∀ xs : List γ, strs0 (xs.map fun x => .str (g x)) = some (xs.map g)
  | [] => rfl
  | x :: xs => by show (strs0 _).map _ = _; rw [strs0_map g xs]; rfl
theorem ints0_map {γ : Type} (g : γ → Int) : ∀ xs : List γ, ints0 (xs.map fun x => .int (g x)) = some (xs.map g)
  | [] => rfl
  | x :: xs => by show (ints0 _).map _ = _; rw [ints0_map g xs]; rfl
theorem joinS_nil : ∀ xs : List (List Nat), joinS [] xs = xs.flatten
  | [] => rfl
  | [p] => by show p = _; simp
  | p :: q :: r => by
    show p ++ ([] ++ joinS [] (q :: r)) = _
    rw [joinS_nil (q :: r)]
    rfl
theorem joinV_0 : joinV [] (.lst []) = some (.str []) := by rfl
theorem sumN_sum : ∀ xs : List Nat, sumN xs = xs.sum
  | [] => rfl
  | x :: r => by show x + sumN r = _; rw [sumN_sum r]; rfl
theorem joinV_nil {γ : Type} (g : γ → List Nat) (xs : List γ) (h : ((xs.map g).map List.length).sum ≤ SL) : joinV [] (.lst (xs.map fun x => .str (g x))) = some (.str (xs.map g).flatten) := by
  show (match strs0 _ with | some ss => okO (le' (sumN (ss.map List.length) + ss.length * ([] : List Nat).length) SL) (VV.str (joinS [] ss)) | none => none) = _
  rw [strs0_map]
  show okO (le' (sumN ((xs.map g).map List.length) + (xs.map g).length * 0) SL) (VV.str (joinS [] (xs.map g))) = _
  rw [sumN_sum, Nat.mul_zero, Nat.add_zero, le_t h, joinS_nil]
  rfl
theorem addL_10_5 {a0 a1 a2 a3 a4 a5 a6 a7 a8 a9 b0 b1 b2 b3 b4 : VV} : addV (.lst [a0, a1, a2, a3, a4, a5, a6, a7, a8, a9]) (.lst [b0, b1, b2, b3, b4]) = some (.lst [a0, a1, a2, a3, a4, a5, a6, a7, a8, a9, b0, b1, b2, b3, b4]) := rfl
theorem addL_15_3 {a0 a1 a2 a3 a4 a5 a6 a7 a8 a9 a10 a11 a12 a13 a14 b0 b1 b2 : VV} : addV (.lst [a0, a1, a2, a3, a4, a5, a6, a7, a8, a9, a10, a11, a12, a13, a14]) (.lst [b0, b1, b2]) = some (.lst [a0, a1, a2, a3, a4, a5, a6, a7, a8, a9, a10, a11, a12, a13, a14, b0, b1, b2]) := rfl
theorem addL_18_4 {a0 a1 a2 a3 a4 a5 a6 a7 a8 a9 a10 a11 a12 a13 a14 a15 a16 a17 b0 b1 b2 b3 : VV} : addV (.lst [a0, a1, a2, a3, a4, a5, a6, a7, a8, a9, a10, a11, a12, a13, a14, a15, a16, a17]) (.lst [b0, b1, b2, b3]) = some (.lst [a0, a1, a2, a3, a4, a5, a6, a7, a8, a9, a10, a11, a12, a13, a14, a15, a16, a17, b0, b1, b2, b3]) := rfl
theorem addL_22_2 {a0 a1 a2 a3 a4 a5 a6 a7 a8 a9 a10 a11 a12 a13 a14 a15 a16 a17 a18 a19 a20 a21 b0 b1 : VV} : addV (.lst [a0, a1, a2, a3, a4, a5, a6, a7, a8, a9, a10, a11, a12, a13, a14, a15, a16, a17, a18, a19, a20, a21]) (.lst [b0, b1]) = some (.lst [a0, a1, a2, a3, a4, a5, a6, a7, a8, a9, a10, a11, a12, a13, a14, a15, a16, a17, a18, a19, a20, a21, b0, b1]) := rfl
theorem addL_24_5 {a0 a1 a2 a3 a4 a5 a6 a7 a8 a9 a10 a11 a12 a13 a14 a15 a16 a17 a18 a19 a20 a21 a22 a23 b0 b1 b2 b3 b4 : VV} : addV (.lst [a0, a1, a2, a3, a4, a5, a6, a7, a8, a9, a10, a11, a12, a13, a14, a15, a16, a17, a18, a19, a20, a21, a22, a23]) (.lst [b0, b1, b2, b3, b4]) = some (.lst [a0, a1, a2, a3, a4, a5, a6, a7, a8, a9, a10, a11, a12, a13, a14, a15, a16, a17, a18, a19, a20, a21, a22, a23, b0, b1, b2, b3, b4]) := rfl
theorem cut_dl {α : Type} (xs : List α) : cut xs none (some (-1)) = xs.dropLast := by
  show ((xs.drop 0).take ((if (-1 : Int) < 0 then ((-1 : Int) + (xs.length : Int)).toNat else min ((-1 : Int)).toNat xs.length) - 0)) = _
  rw [List.drop_zero, if_pos (by decide), List.dropLast_eq_take]
  congr 1
  omega
end MP.Z

/-! rows read with a list of waiting things, and parted at their loosest signs -/
namespace MP.PR
inductive It where
  | v (i : Int)
  | s (c : Nat)
  deriving DecidableEq
inductive T3 where
  | leaf (i : Int)
  | un (c : Nat) (t : T3)
  | bin (c : Nat) (l r : T3)
  deriving DecidableEq
inductive W where | left | right | none_
  deriving DecidableEq
structure Wt where
  p : Nat
  c : Nat
  t : Option T3
/-- what a waiting thing makes -/
def put (w : Wt) (t : T3) : T3 := match w.t with
  | none => .un w.c t
  | some l => .bin w.c l t
/-- all taken off, the last one (the head) first -/
def fin : List Wt → T3 → T3
  | [], t => t
  | w :: ws, t => fin ws (put w t)
theorem fin_append : ∀ (a b : List Wt) (t : T3), fin (a ++ b) t = fin b (fin a t)
  | [], _, _ => rfl
  | w :: ws, b, t => fin_append ws b (put w t)
section
variable (pl : Nat → Nat) (wd : Nat → W)
def ah (c : Nat) : Bool := decide (c ∈ [112, 113])
def popW (p : Nat) (w : W) : List Wt → T3 → List Wt × T3
  | [], t => ([], t)
  | x :: st, t => if p < x.p ∨ x.p = p ∧ w = .left then popW p w st (put x t) else (x :: st, t)
def pushI (c : Nat) (q : List Wt × T3) : Option (List Wt × Option T3) := match q.1 with
  | [] => some ([⟨pl c, c, some q.2⟩], none)
  | x :: st => if x.p = pl c ∧ wd (pl c) = .none_ then none else some (⟨pl c, c, some q.2⟩ :: x :: st, none)
def pushA (c : Nat) (st : List Wt) : Option (List Wt × Option T3) := match st with
  | [] => some ([⟨pl c, c, none⟩], none)
  | x :: st => if pl c ≤ x.p then none else some (⟨pl c, c, none⟩ :: x :: st, none)
def infI (c : Nat) (st : List Wt) (cur : Option T3) : Option (List Wt × Option T3) := match cur with
  | none => none
  | some t => pushI pl wd c (popW (pl c) (wd (pl c)) st t)
def mapQ (st : List Wt) (o : Option (List Wt × Option T3)) : Option (List Wt × Option T3) := match o with
  | none => none
  | some q => some (q.1 ++ st, q.2)
def stepI (i : It) (st : List Wt) (cur : Option T3) : Option (List Wt × Option T3) := match i with
  | .v i => some (st, some (.leaf i))
  | .s c => if ah c = true then pushA pl c st else infI pl wd c st cur
def run : List It → List Wt → Option T3 → Option (List Wt × Option T3)
  | [], st, cur => some (st, cur)
  | i :: r, st, cur => match stepI pl wd i st cur with
    | none => none
    | some q => run r q.1 q.2
def fin1 : Option (List Wt × Option T3) → Option T3
  | some (st, some t) => some (fin st t)
  | _ => none
/-- the tree of a row, read from left to right -/
def read (r : List It) : Option T3 := fin1 (run pl wd r [] none)
theorem run_append : ∀ (a b : List It) (st : List Wt) (cur : Option T3), run pl wd (a ++ b) st cur = match run pl wd a st cur with
    | none => none
    | some q => run pl wd b q.1 q.2
  | [], b, st, cur => rfl
  | i :: a, b, st, cur => by
    show (match stepI pl wd i st cur with | none => none | some q => run pl wd (a ++ b) q.1 q.2) = match (match stepI pl wd i st cur with | none => none | some q => run pl wd a q.1 q.2) with | none => none | some q => run pl wd b q.1 q.2
    cases stepI pl wd i st cur with
    | none => rfl
    | some q => exact run_append a b q.1 q.2
/-- whether the items can stand so -/
def okR : Bool → List It → Bool
  | rd, [] => rd
  | rd, .v _ :: r => !rd && okR true r
  | rd, .s c :: r => if ah c = true then !rd && okR false r else rd && okR false r
theorem run_ready : ∀ (r : List It) (rd : Bool) (st : List Wt) (cur : Option T3) (q : List Wt × Option T3), okR rd r = true → (rd = cur.isSome) → run pl wd r st cur = some q → q.2.isSome = true
  | [], rd, st, cur, q, h, e, hr => by
    cases hr
    rw [← e]
    exact h
  | .v i :: r, rd, st, cur, q, h, e, hr => by
    have h : (!rd && okR true r) = true := h
    rw [Bool.and_eq_true] at h
    exact run_ready r true st (some (.leaf i)) q h.2 rfl hr
  | .s c :: r, rd, st, cur, q, h, e, hr => by
    have h : (if ah c = true then !rd && okR false r else rd && okR false r) = true := h
    have hf : okR false r = true := by
      split at h <;> (rw [Bool.and_eq_true] at h; exact h.2)
    have hr : (match stepI pl wd (.s c) st cur with | none => none | some q => run pl wd r q.1 q.2) = some q := hr
    cases hs : stepI pl wd (.s c) st cur with
    | none => rw [hs] at hr; cases hr
    | some q1 =>
      rw [hs] at hr
      have hn : q1.2 = none := by
        unfold stepI at hs
        simp only at hs
        split at hs
        · unfold pushA at hs
          split at hs
          · cases hs; rfl
          · split at hs
            · cases hs
            · cases hs; rfl
        · cases cur with
          | none => cases hs
          | some t =>
            unfold infI pushI at hs
            simp only at hs
            split at hs
            · cases hs; rfl
            · split at hs
              · cases hs
              · cases hs; rfl
      have hr : run pl wd r q1.1 q1.2 = some q := hr
      exact run_ready r false q1.1 q1.2 q hf (by rw [hn]; rfl) hr
theorem popW_frame {p b : Nat} (hp : b < p) {w : W} {st : List Wt} (hst : ∀ x ∈ st, x.p ≤ b) : ∀ (a : List Wt) (t : T3), popW p w (a ++ st) t = ((popW p w a t).1 ++ st, (popW p w a t).2)
  | [], t => by
    cases st with
    | nil => rfl
    | cons x st =>
      have hx := hst x (List.mem_cons_self ..)
      show (if p < x.p ∨ x.p = p ∧ w = .left then _ else _) = _
      rw [if_neg (by omega)]
      rfl
  | y :: a, t => by
    show (if p < y.p ∨ y.p = p ∧ w = .left then popW p w (a ++ st) (put y t) else (y :: (a ++ st), t)) = _
    by_cases h : p < y.p ∨ y.p = p ∧ w = .left
    · rw [if_pos h, popW_frame hp hst a (put y t)]
      show _ = ((if p < y.p ∨ y.p = p ∧ w = .left then popW p w a (put y t) else (y :: a, t)).1 ++ st, _)
      rw [if_pos h]
      show _ = (_, (if p < y.p ∨ y.p = p ∧ w = .left then popW p w a (put y t) else (y :: a, t)).2)
      rw [if_pos h]
    · rw [if_neg h]
      show _ = ((if p < y.p ∨ y.p = p ∧ w = .left then popW p w a (put y t) else (y :: a, t)).1 ++ st, (if p < y.p ∨ y.p = p ∧ w = .left then popW p w a (put y t) else (y :: a, t)).2)
      rw [if_neg h]
      rfl
theorem popW_mem {p : Nat} {w : W} : ∀ (a : List Wt) (t : T3) (x : Wt), x ∈ (popW p w a t).1 → x ∈ a
  | [], _, _, h => h
  | y :: a, t, x, h => by
    unfold popW at h
    split at h
    · exact List.mem_cons_of_mem _ (popW_mem a _ x h)
    · exact h
def sgns (r : List It) : List Nat := r.filterMap fun i => match i with | .s c => some c | .v _ => none
/-- a tighter segment does not see what waits below it -/
theorem run_frame {b : Nat} {st : List Wt} (hst : ∀ x ∈ st, x.p ≤ b) : ∀ (r : List It) (a : List Wt) (cur : Option T3), (∀ c, .s c ∈ r → b < pl c) → (∀ x ∈ a, b < x.p) →
    run pl wd r (a ++ st) cur = mapQ st (run pl wd r a cur)
  | [], a, cur, _, _ => rfl
  | i :: r, a, cur, hr, ha => by
    have hr' : ∀ c, .s c ∈ r → b < pl c := fun c hc => hr c (List.mem_cons_of_mem _ hc)
    have key : stepI pl wd i (a ++ st) cur = mapQ st (stepI pl wd i a cur) := by
      match i with
      | .v n => rfl
      | .s c =>
        have hc := hr c (List.mem_cons_self ..)
        show (if ah c = true then pushA pl c (a ++ st) else infI pl wd c (a ++ st) cur) = mapQ st (if ah c = true then pushA pl c a else infI pl wd c a cur)
        by_cases h : ah c = true
        · rw [if_pos h, if_pos h]
          cases a with
          | nil =>
            cases st with
            | nil => rfl
            | cons x st =>
              have hx := hst x (List.mem_cons_self ..)
              show (if pl c ≤ x.p then none else _) = _
              rw [if_neg (by omega)]
              rfl
          | cons y a =>
            show (if pl c ≤ y.p then none else some (_ :: y :: (a ++ st), none)) = mapQ st (if pl c ≤ y.p then none else some (_ :: y :: a, none))
            by_cases h2 : pl c ≤ y.p
            · rw [if_pos h2, if_pos h2]; rfl
            · rw [if_neg h2, if_neg h2]; rfl
        · rw [if_neg h, if_neg h]
          cases cur with
          | none => rfl
          | some t =>
            show pushI pl wd c (popW (pl c) (wd (pl c)) (a ++ st) t) = mapQ st (pushI pl wd c (popW (pl c) (wd (pl c)) a t))
            rw [popW_frame hc hst]
            generalize popW (pl c) (wd (pl c)) a t = q
            obtain ⟨q1, q2⟩ := q
            cases q1 with
            | nil =>
              cases st with
              | nil => rfl
              | cons x st =>
                have hx := hst x (List.mem_cons_self ..)
                show (if x.p = pl c ∧ wd (pl c) = .none_ then none else _) = _
                rw [if_neg (by omega)]
                rfl
            | cons y q1 =>
              show (if y.p = pl c ∧ wd (pl c) = .none_ then none else some (_ :: y :: (q1 ++ st), none)) = mapQ st (if y.p = pl c ∧ wd (pl c) = .none_ then none else some (_ :: y :: q1, none))
              by_cases h2 : y.p = pl c ∧ wd (pl c) = .none_
              · rw [if_pos h2, if_pos h2]; rfl
              · rw [if_neg h2, if_neg h2]; rfl
    show (match stepI pl wd i (a ++ st) cur with | none => none | some q => run pl wd r q.1 q.2) = mapQ st (match stepI pl wd i a cur with | none => none | some q => run pl wd r q.1 q.2)
    rw [key]
    cases hs : stepI pl wd i a cur with
    | none => rfl
    | some q =>
      refine run_frame hst r q.1 q.2 hr' ?_
      intro x hx
      match i, hs with
      | .v n, hs => cases hs; exact ha x hx
      | .s c, hs =>
        have hc := hr c (List.mem_cons_self ..)
        unfold stepI at hs
        simp only at hs
        split at hs
        · unfold pushA at hs
          split at hs
          · cases hs
            rw [List.mem_singleton.mp hx]; exact hc
          · split at hs
            · cases hs
            · cases hs
              rcases List.mem_cons.mp hx with rfl | hx
              · exact hc
              · exact ha x hx
        · cases cur with
          | none => cases hs
          | some t =>
            have hm := fun y hy => ha y (popW_mem (p := pl c) (w := wd (pl c)) a t y hy)
            have hs : pushI pl wd c (popW (pl c) (wd (pl c)) a t) = some q := hs
            unfold pushI at hs
            split at hs
            · cases hs
              rw [List.mem_singleton.mp hx]; exact hc
            · rename_i y st' e
              split at hs
              · cases hs
              · cases hs
                rcases List.mem_cons.mp hx with rfl | hx
                · exact hc
                · exact hm x (by rw [e]; exact hx)
/-- pops all that is tighter -/
theorem popW_all {p : Nat} {w : W} {st : List Wt} : ∀ (a : List Wt) (t : T3), (∀ x ∈ a, p < x.p) → popW p w (a ++ st) t = popW p w st (fin a t)
  | [], _, _ => rfl
  | y :: a, t, h => by
    show (if p < y.p ∨ y.p = p ∧ w = .left then popW p w (a ++ st) (put y t) else _) = _
    rw [if_pos (.inl (h y (List.mem_cons_self ..)))]
    exact popW_all a (put y t) fun x hx => h x (List.mem_cons_of_mem _ hx)
theorem popW_left {p : Nat} : ∀ (a : List Wt) (t : T3), (∀ x ∈ a, x.p = p) → popW p .left a t = ([], fin a t)
  | [], _, _ => rfl
  | y :: a, t, h => by
    show (if p < y.p ∨ y.p = p ∧ W.left = .left then popW p .left a (put y t) else _) = _
    rw [if_pos (.inr ⟨h y (List.mem_cons_self ..), rfl⟩)]
    exact popW_left a (put y t) fun x hx => h x (List.mem_cons_of_mem _ hx)
theorem popW_stay {p : Nat} {w : W} (hw : w ≠ .left) : ∀ (a : List Wt) (t : T3), (∀ x ∈ a, x.p = p) → popW p w a t = (a, t)
  | [], _, _ => rfl
  | y :: a, t, h => by
    have := h y (List.mem_cons_self ..)
    show (if p < y.p ∨ y.p = p ∧ w = .left then _ else (y :: a, t)) = _
    rw [if_neg (by rintro (z | ⟨_, z⟩); omega; exact hw z)]
end
end MP.PR

namespace MP.PR
section
variable (pl : Nat → Nat) (wd : Nat → W)
theorem step_gt {b : Nat} {i : It} {a : List Wt} {cur : Option T3} {q : List Wt × Option T3} (hs : stepI pl wd i a cur = some q) (hi : ∀ c, i = .s c → b < pl c) (ha : ∀ x ∈ a, b < x.p) : ∀ x ∈ q.1, b < x.p := by
  intro x hx
  match i, hs with
  | .v n, hs => cases hs; exact ha x hx
  | .s c, hs =>
    have hc := hi c rfl
    have hs : (if ah c = true then pushA pl c a else infI pl wd c a cur) = some q := hs
    split at hs
    · unfold pushA at hs
      split at hs
      · cases hs
        rw [List.mem_singleton.mp hx]; exact hc
      · split at hs
        · cases hs
        · cases hs
          rcases List.mem_cons.mp hx with rfl | hx
          · exact hc
          · exact ha x hx
    · cases cur with
      | none => cases hs
      | some t =>
        have hm := fun y hy => ha y (popW_mem (p := pl c) (w := wd (pl c)) a t y hy)
        have hs : pushI pl wd c (popW (pl c) (wd (pl c)) a t) = some q := hs
        unfold pushI at hs
        split at hs
        · cases hs
          rw [List.mem_singleton.mp hx]; exact hc
        · rename_i y st' e
          split at hs
          · cases hs
          · cases hs
            rcases List.mem_cons.mp hx with rfl | hx
            · exact hc
            · exact hm x (by rw [e]; exact hx)
theorem run_gt {b : Nat} : ∀ (r : List It) (a : List Wt) (cur : Option T3) (q : List Wt × Option T3), run pl wd r a cur = some q → (∀ c, .s c ∈ r → b < pl c) → (∀ x ∈ a, b < x.p) → ∀ x ∈ q.1, b < x.p
  | [], a, cur, q, h, _, ha => by cases h; exact ha
  | i :: r, a, cur, q, h, hr, ha => by
    have h : (match stepI pl wd i a cur with | none => none | some q => run pl wd r q.1 q.2) = some q := h
    cases hs : stepI pl wd i a cur with
    | none => rw [hs] at h; cases h
    | some q1 =>
      rw [hs] at h
      exact run_gt r q1.1 q1.2 q h (fun c hc => hr c (List.mem_cons_of_mem _ hc)) (step_gt pl wd hs (fun c e => hr c (by rw [e]; exact List.mem_cons_self ..)) ha)
/-- one more infix sign of the level, with the tree ahead of it -/
def nextS (p : Nat) (w : W) (S : List Wt) (T : T3) (c : Nat) : Option (List Wt) := match w with
  | .left => some [⟨p, c, some (fin S T)⟩]
  | .right => some (⟨p, c, some T⟩ :: S)
  | .none_ => if S.isEmpty = true then some [⟨p, c, some T⟩] else none
def go (p : Nat) (w : W) : List Wt → T3 → List (Nat × Option T3) → Option T3
  | S, T, [] => some (fin S T)
  | S, T, (c, o) :: l => match nextS p w S T c with
    | none => none
    | some S' => match o with
      | none => none
      | some T' => go p w S' T' l
def flat (l : List (Nat × List It)) : List It := l.flatMap fun x => .s x.1 :: x.2
theorem step_cut {p c : Nat} (hp : pl c = p) (hc : ah c = false) {st0 S : List Wt} (t0 : T3) (h0 : ∀ x ∈ st0, p < x.p) (hS : ∀ x ∈ S, x.p = p) :
    stepI pl wd (.s c) (st0 ++ S) (some t0) = (nextS p (wd p) S (fin st0 t0) c).map fun S' => (S', (none : Option T3)) := by
  show (if ah c = true then _ else pushI pl wd c (popW (pl c) (wd (pl c)) (st0 ++ S) t0)) = _
  rw [if_neg (by rw [hc]; exact Bool.false_ne_true), hp, popW_all st0 t0 h0]
  generalize fin st0 t0 = T
  cases hw : wd p with
  | left =>
    rw [popW_left S T hS]
    show some (([⟨pl c, c, some (fin S T)⟩] : List Wt), (none : Option T3)) = _
    rw [hp]
    rfl
  | right =>
    rw [popW_stay (by decide) S T hS]
    cases S with
    | nil => show some (([⟨pl c, c, some T⟩] : List Wt), (none : Option T3)) = _; rw [hp]; rfl
    | cons x S =>
      show (if x.p = pl c ∧ wd (pl c) = .none_ then none else some ((⟨pl c, c, some T⟩ :: x :: S : List Wt), (none : Option T3))) = _
      rw [hp, hw, if_neg (by rintro ⟨_, z⟩; cases z)]
      rfl
  | none_ =>
    rw [popW_stay (by decide) S T hS]
    cases S with
    | nil => show some (([⟨pl c, c, some T⟩] : List Wt), (none : Option T3)) = _; rw [hp]; rfl
    | cons x S =>
      show (if x.p = pl c ∧ wd (pl c) = .none_ then none else some ((⟨pl c, c, some T⟩ :: x :: S : List Wt), (none : Option T3))) = _
      rw [hp, hw, if_pos ⟨hS x (List.mem_cons_self ..), rfl⟩]
      rfl
theorem nextS_p {p : Nat} {w : W} {S S' : List Wt} {T : T3} {c : Nat} (h : nextS p w S T c = some S') (hS : ∀ x ∈ S, x.p = p) : ∀ x ∈ S', x.p = p := by
  intro x hx
  cases w with
  | left => cases h; rw [List.mem_singleton.mp hx]
  | right =>
    cases h
    rcases List.mem_cons.mp hx with rfl | hx
    · rfl
    · exact hS x hx
  | none_ =>
    unfold nextS at h
    simp only at h
    split at h
    · cases h; rw [List.mem_singleton.mp hx]
    · cases h
theorem run_parts {p : Nat} : ∀ (l : List (Nat × List It)) (st0 S : List Wt) (t0 : T3), (∀ x ∈ l, pl x.1 = p ∧ ah x.1 = false ∧ okR false x.2 = true ∧ ∀ c, .s c ∈ x.2 → p < pl c) → (∀ x ∈ st0, p < x.p) → (∀ x ∈ S, x.p = p) →
    fin1 (run pl wd (flat l) (st0 ++ S) (some t0)) = go p (wd p) S (fin st0 t0) (l.map fun x => (x.1, read pl wd x.2))
  | [], st0, S, t0, _, _, _ => by
    show some (fin (st0 ++ S) t0) = some (fin S (fin st0 t0))
    rw [fin_append]
  | (c, part) :: l, st0, S, t0, hl, h0, hS => by
    obtain ⟨h1, h2, h3, h4⟩ := hl (c, part) (List.mem_cons_self ..)
    have e : flat ((c, part) :: l) = .s c :: (part ++ flat l) := rfl
    rw [e]
    show fin1 (match stepI pl wd (.s c) (st0 ++ S) (some t0) with | none => none | some q => run pl wd (part ++ flat l) q.1 q.2) = _
    rw [step_cut pl wd h1 h2 t0 h0 hS]
    show _ = (match nextS p (wd p) S (fin st0 t0) c with | none => none | some S' => match read pl wd part with | none => none | some T' => go p (wd p) S' T' (l.map fun x : Nat × List It => (x.1, read pl wd x.2)))
    cases hn : nextS p (wd p) S (fin st0 t0) c with
    | none => rfl
    | some S' =>
      have hS' := nextS_p hn hS
      show fin1 (run pl wd (part ++ flat l) S' none) = _
      have fr := run_frame pl wd (b := p) (st := S') (fun x hx => by rw [hS' x hx]; exact Nat.le_refl _) part [] none h4 (fun x hx => absurd hx List.not_mem_nil)
      rw [List.nil_append] at fr
      rw [run_append, fr]
      unfold read
      cases hr : run pl wd part [] none with
      | none => rfl
      | some q =>
        have rdy := run_ready pl wd part false [] none q h3 rfl hr
        have gt := run_gt pl wd part [] none q hr h4 (fun x hx => absurd hx List.not_mem_nil)
        obtain ⟨st1, cur⟩ := q
        cases cur with
        | none => cases rdy
        | some t1 => exact run_parts l st1 S' t1 (fun x hx => hl x (List.mem_cons_of_mem _ hx)) gt hS'
theorem okR_cut : ∀ (a : List It) (rd : Bool) (c : Nat) (r : List It), ah c = false → okR rd (a ++ .s c :: r) = true → okR rd a = true ∧ okR false r = true
  | [], rd, c, r, hc, h => by
    have h : (if ah c = true then !rd && okR false r else rd && okR false r) = true := h
    rw [if_neg (by rw [hc]; exact Bool.false_ne_true), Bool.and_eq_true] at h
    exact h
  | .v n :: a, rd, c, r, hc, h => by
    have h : (!rd && okR true (a ++ .s c :: r)) = true := h
    rw [Bool.and_eq_true] at h
    obtain ⟨h1, h2⟩ := okR_cut a true c r hc h.2
    exact ⟨by show (!rd && okR true a) = true; rw [h.1, h1]; rfl, h2⟩
  | .s d :: a, rd, c, r, hc, h => by
    have h : (if ah d = true then !rd && okR false (a ++ .s c :: r) else rd && okR false (a ++ .s c :: r)) = true := h
    by_cases hd : ah d = true
    · rw [if_pos hd, Bool.and_eq_true] at h
      obtain ⟨h1, h2⟩ := okR_cut a false c r hc h.2
      exact ⟨by show (if ah d = true then !rd && okR false a else _) = true; rw [if_pos hd, h.1, h1]; rfl, h2⟩
    · rw [if_neg hd, Bool.and_eq_true] at h
      obtain ⟨h1, h2⟩ := okR_cut a false c r hc h.2
      exact ⟨by show (if ah d = true then _ else rd && okR false a) = true; rw [if_neg hd, h.1, h1]; rfl, h2⟩
/-- parted at the signs of a level; none where a sign ahead of the level is met -/
def spl (own : Nat → Bool) : List It → Option (List It × List (Nat × List It))
  | [] => some ([], [])
  | .v n :: r => (spl own r).map fun q => (.v n :: q.1, q.2)
  | .s c :: r => if own c = true then (if ah c = true then none else (spl own r).map fun q => ([], (c, q.1) :: q.2)) else (spl own r).map fun q => (.s c :: q.1, q.2)
theorem spl_some {own : Nat → Bool} : ∀ (r : List It) (q : List It × List (Nat × List It)) (rd : Bool), spl own r = some q → okR rd r = true → r = q.1 ++ flat q.2 ∧ okR rd q.1 = true ∧ (∀ c, .s c ∈ q.1 → own c = false) ∧ ∀ x ∈ q.2, own x.1 = true ∧ ah x.1 = false ∧ okR false x.2 = true ∧ ∀ c, .s c ∈ x.2 → own c = false
  | [], q, rd, h, ho => by cases h; exact ⟨rfl, ho, fun c hc => absurd hc List.not_mem_nil, fun x hx => absurd hx List.not_mem_nil⟩
  | .v n :: r, q, rd, h, ho => by
    have h : (spl own r).map (fun q => (.v n :: q.1, q.2)) = some q := h
    cases e : spl own r with
    | none => rw [e] at h; cases h
    | some q1 =>
      rw [e] at h
      cases h
      have ho : (!rd && okR true r) = true := ho
      rw [Bool.and_eq_true] at ho
      obtain ⟨a, b, c, d⟩ := spl_some r q1 true e ho.2
      refine ⟨by rw [a]; rfl, by show (!rd && okR true q1.1) = true; rw [ho.1, b]; rfl, fun x hx => ?_, d⟩
      rcases List.mem_cons.mp hx with z | z
      · cases z
      · exact c x z
  | .s k :: r, q, rd, h, ho => by
    have h : (if own k = true then (if ah k = true then none else (spl own r).map fun q => ([], (k, q.1) :: q.2)) else (spl own r).map fun q => (.s k :: q.1, q.2)) = some q := h
    by_cases hk : own k = true
    · rw [if_pos hk] at h
      by_cases ha : ah k = true
      · rw [if_pos ha] at h; cases h
      · rw [if_neg ha] at h
        have ha' : ah k = false := by cases z : ah k with | false => rfl | true => exact absurd z ha
        cases e : spl own r with
        | none => rw [e] at h; cases h
        | some q1 =>
          rw [e] at h
          cases h
          obtain ⟨h1, h2⟩ := okR_cut [] rd k r ha' ho
          obtain ⟨a, b, c, d⟩ := spl_some r q1 false e h2
          refine ⟨by rw [a]; rfl, h1, fun x hx => absurd hx List.not_mem_nil, fun x hx => ?_⟩
          rcases List.mem_cons.mp hx with rfl | hx
          · exact ⟨hk, ha', b, c⟩
          · exact d x hx
    · rw [if_neg hk] at h
      cases e : spl own r with
      | none => rw [e] at h; cases h
      | some q1 =>
        rw [e] at h
        cases h
        have ho : (if ah k = true then !rd && okR false r else rd && okR false r) = true := ho
        have hof : okR false r = true := by split at ho <;> (rw [Bool.and_eq_true] at ho; exact ho.2)
        obtain ⟨a, b, c, d⟩ := spl_some r q1 false e hof
        refine ⟨by rw [a]; rfl, ?_, fun x hx => ?_, d⟩
        · show (if ah k = true then !rd && okR false q1.1 else rd && okR false q1.1) = true
          rw [b]
          rw [hof] at ho
          exact ho
        · rcases List.mem_cons.mp hx with z | z
          · cases z; cases y : own k with | false => rfl | true => exact absurd y hk
          · exact c x z
theorem spl_none {own : Nat → Bool} : ∀ (r : List It), spl own r = none → ∃ pre c suf, r = pre ++ .s c :: suf ∧ own c = true ∧ ah c = true
  | [], h => by cases h
  | .v n :: r, h => by
    have h : (spl own r).map (fun q => (.v n :: q.1, q.2)) = none := h
    cases e : spl own r with
    | some q => rw [e] at h; cases h
    | none => obtain ⟨p, c, s, a, b, d⟩ := spl_none r e; exact ⟨.v n :: p, c, s, by rw [a]; rfl, b, d⟩
  | .s k :: r, h => by
    have h : (if own k = true then (if ah k = true then none else (spl own r).map fun q => ([], (k, q.1) :: q.2)) else (spl own r).map fun q => (.s k :: q.1, q.2)) = none := h
    by_cases hk : own k = true ∧ ah k = true
    · exact ⟨[], k, r, rfl, hk.1, hk.2⟩
    · cases e : spl own r with
      | none => obtain ⟨p, c, s, a, b, d⟩ := spl_none r e; exact ⟨.s k :: p, c, s, by rw [a]; rfl, b, d⟩
      | some q =>
        rw [e] at h
        split at h
        · rename_i h1
          split at h
          · rename_i h2; exact absurd ⟨h1, h2⟩ hk
          · cases h
        · cases h
/-- a sign ahead of the loosest level that does not stand first -/
theorem run_ahead {p : Nat} {pre suf : List It} {c : Nat} (hne : pre ≠ []) (hp : pl c = p) (hc : ah c = true) (ok : okR false (pre ++ .s c :: suf) = true) (hmin : ∀ d, .s d ∈ pre → p ≤ pl d) : read pl wd (pre ++ .s c :: suf) = none := by
  unfold read
  rw [run_append]
  cases hr : run pl wd pre [] none with
  | none => rfl
  | some q =>
    rcases List.eq_nil_or_concat pre with rfl | ⟨pre', i, rfl⟩
    · exact absurd rfl hne
    · rw [List.concat_eq_append] at *
      rw [run_append] at hr
      cases h1 : run pl wd pre' [] none with
      | none => rw [h1] at hr; cases hr
      | some q1 =>
        rw [h1] at hr
        have hr : (match stepI pl wd i q1.1 q1.2 with | none => none | some q => run pl wd [] q.1 q.2) = some q := hr
        cases h2 : stepI pl wd i q1.1 q1.2 with
        | none => rw [h2] at hr; cases hr
        | some q2 =>
          rw [h2] at hr
          cases hr
          match i, h2 with
          | .v n, _ =>
            have : ∀ (a : List It) (rd : Bool), okR rd (a ++ .v n :: .s c :: suf) = true → False := by
              intro a
              induction a with
              | nil =>
                intro rd h
                have h : (!rd && (if ah c = true then !true && okR false suf else _)) = true := h
                rw [if_pos hc] at h
                simp at h
              | cons j a ih =>
                intro rd h
                cases j with
                | v m =>
                  have h : (!rd && okR true (a ++ .v n :: .s c :: suf)) = true := h
                  rw [Bool.and_eq_true] at h
                  exact ih _ h.2
                | s m =>
                  have h : (if ah m = true then !rd && okR false (a ++ .v n :: .s c :: suf) else rd && okR false (a ++ .v n :: .s c :: suf)) = true := h
                  split at h <;> (rw [Bool.and_eq_true] at h; exact ih _ h.2)
            have ok : okR false (pre' ++ .v n :: .s c :: suf) = true := by
              have e : pre' ++ [It.v n] ++ .s c :: suf = pre' ++ .v n :: .s c :: suf := by rw [List.append_assoc]; rfl
              rw [← e]; exact ok
            exact (this pre' false ok).elim
          | .s d, h2 =>
            have hd : p ≤ pl d := hmin d (by simp)
            have top : ∃ x st, q2.1 = x :: st ∧ p ≤ x.p := by
              have h2 : (if ah d = true then pushA pl d q1.1 else infI pl wd d q1.1 q1.2) = some q2 := h2
              split at h2
              · unfold pushA at h2
                split at h2
                · cases h2; exact ⟨_, _, rfl, hd⟩
                · split at h2
                  · cases h2
                  · cases h2; exact ⟨_, _, rfl, hd⟩
              · cases h3 : q1.2 with
                | none => rw [h3] at h2; cases h2
                | some t =>
                  rw [h3] at h2
                  have h2 : pushI pl wd d (popW (pl d) (wd (pl d)) q1.1 t) = some q2 := h2
                  unfold pushI at h2
                  split at h2
                  · cases h2; exact ⟨_, _, rfl, hd⟩
                  · split at h2
                    · cases h2
                    · cases h2; exact ⟨_, _, rfl, hd⟩
            obtain ⟨x, st, e, hx⟩ := top
            show fin1 (match stepI pl wd (.s c) q2.1 q2.2 with | none => none | some q => run pl wd suf q.1 q.2) = none
            have : stepI pl wd (.s c) q2.1 q2.2 = none := by
              show (if ah c = true then pushA pl c q2.1 else _) = none
              rw [if_pos hc, e]
              show (if pl c ≤ x.p then none else _) = none
              rw [if_pos (by omega)]
            rw [this]
            rfl
end
end MP.PR

namespace MP.PR
def rightT : T3 → List (Nat × T3) → T3
  | T, [] => T
  | T, (c, T1) :: l => .bin c T (rightT T1 l)
def headT (first : Option Nat) (T : T3) : T3 := match first with
  | none => T
  | some c => .un c T
def comb (w : W) (first : Option Nat) (T0 : T3) (l : List (Nat × T3)) : Option T3 := match w with
  | .left => some (l.foldl (fun f x => .bin x.1 f x.2) (headT first T0))
  | .right => some (headT first (rightT T0 l))
  | .none_ => if l.length + (if first.isSome = true then 1 else 0) > 1 then none else some (headT first (rightT T0 l))
def allS : List (Nat × Option T3) → Option (List (Nat × T3))
  | [] => some []
  | (_, none) :: _ => none
  | (c, some t) :: l => (allS l).map fun ls => (c, t) :: ls
def firstS (p : Nat) (first : Option Nat) : List Wt := match first with
  | none => []
  | some c => [⟨p, c, none⟩]
theorem go_none {p : Nat} {w : W} : ∀ (l : List (Nat × Option T3)) (S : List Wt) (T : T3), allS l = none → go p w S T l = none
  | [], _, _, h => by cases h
  | (c, o) :: l, S, T, h => by
    unfold go
    cases nextS p w S T c with
    | none => rfl
    | some S' =>
      cases o with
      | none => rfl
      | some T' =>
        have h : (allS l).map (fun ls => (c, T') :: ls) = none := h
        cases e : allS l with
        | some _ => rw [e] at h; cases h
        | none => exact go_none l S' T' e
theorem go_left {p : Nat} : ∀ (l : List (Nat × Option T3)) (ls : List (Nat × T3)) (S : List Wt) (T : T3), allS l = some ls → go p .left S T l = some (ls.foldl (fun f x => .bin x.1 f x.2) (fin S T))
  | [], ls, S, T, h => by cases h; rfl
  | (c, none) :: l, ls, S, T, h => by cases h
  | (c, some T') :: l, ls, S, T, h => by
    have h : (allS l).map (fun ls => (c, T') :: ls) = some ls := h
    cases e : allS l with
    | none => rw [e] at h; cases h
    | some ls' =>
      rw [e] at h
      cases h
      exact go_left l ls' [⟨p, c, some (fin S T)⟩] T' e
theorem go_right {p : Nat} : ∀ (l : List (Nat × Option T3)) (ls : List (Nat × T3)) (S : List Wt) (T : T3), allS l = some ls → go p .right S T l = some (fin S (rightT T ls))
  | [], ls, S, T, h => by cases h; rfl
  | (c, none) :: l, ls, S, T, h => by cases h
  | (c, some T') :: l, ls, S, T, h => by
    have h : (allS l).map (fun ls => (c, T') :: ls) = some ls := h
    cases e : allS l with
    | none => rw [e] at h; cases h
    | some ls' =>
      rw [e] at h
      cases h
      exact go_right l ls' (⟨p, c, some T⟩ :: S) T' e
theorem go_comb {p : Nat} (w : W) (first : Option Nat) (T0 : T3) (l : List (Nat × Option T3)) : go p w (firstS p first) T0 l = match allS l with
    | none => none
    | some ls => comb w first T0 ls := by
  cases e : allS l with
  | none => exact go_none l _ _ e
  | some ls =>
    cases w with
    | left => rw [go_left l ls _ _ e]; cases first <;> rfl
    | right => rw [go_right l ls _ _ e]; cases first <;> rfl
    | none_ =>
      match l, e with
      | [], e => cases e; cases first <;> rfl
      | (c, none) :: l, e => cases e
      | (c, some T1) :: l, e =>
        have e : (allS l).map (fun ls => (c, T1) :: ls) = some ls := e
        cases e2 : allS l with
        | none => rw [e2] at e; cases e
        | some ls' =>
          rw [e2] at e
          cases e
          cases first with
          | some d =>
            show none = (if ((c, T1) :: ls').length + 1 > 1 then none else some (headT (some d) (rightT T0 ((c, T1) :: ls'))))
            rw [if_pos (by rw [List.length_cons]; omega)]
          | none =>
            match l, e2 with
            | [], e2 => cases e2; rfl
            | (c2, none) :: l, e2 => cases e2
            | (c2, some T2) :: l, e2 =>
              have e2 : (allS l).map (fun ls => (c2, T2) :: ls) = some ls' := e2
              cases e3 : allS l with
              | none => rw [e3] at e2; cases e2
              | some ls2 =>
                rw [e3] at e2
                cases e2
                show none = (if ((c, T1) :: (c2, T2) :: ls2).length + 0 > 1 then none else some (headT none (rightT T0 ((c, T1) :: (c2, T2) :: ls2))))
                rw [if_pos (by rw [List.length_cons, List.length_cons]; omega)]
def firstOf (own : Nat → Bool) : List It → Option Nat
  | .s c :: _ => if own c = true then some c else none
  | _ => none
def hdL (first : Option Nat) : List It := match first with
  | none => []
  | some c => [It.s c]
def nF (first : Option Nat) : Nat := match first with
  | none => 0
  | some _ => 1
def restOf (own : Nat → Bool) (row : List It) : List It := match firstOf own row with
  | some _ => row.tail
  | none => row
section
variable (pl : Nat → Nat) (wd : Nat → W)
def minP (d : Nat) (ds : List Nat) : Nat := (ds.map pl).foldl min (pl d)
def ownP (p : Nat) (c : Nat) : Bool := decide (pl c = p)
def partT (rd : List It → Option T3) (p : Nat) (row : List It) (q : List It × List (Nat × List It)) : Option T3 := match rd q.1 with
  | none => none
  | some T0 => match allS (q.2.map fun x => (x.1, rd x.2)) with
    | none => none
    | some ls => comb (wd p) (firstOf (ownP pl p) row) T0 ls
/-- the tree of a row, parted at its loosest signs -/
def lawT : Nat → List It → Option T3
  | 0, _ => none
  | n + 1, row => match sgns row with
    | [] => match row with
      | .v i :: _ => some (.leaf i)
      | _ => none
    | d :: ds => match spl (ownP pl (minP pl d ds)) (restOf (ownP pl (minP pl d ds)) row) with
      | none => none
      | some q => partT pl wd (lawT n) (minP pl d ds) row q
theorem foldl_min : ∀ (l : List Nat) (a : Nat), l.foldl min a ≤ a ∧ (∀ x ∈ l, l.foldl min a ≤ x) ∧ (l.foldl min a = a ∨ l.foldl min a ∈ l)
  | [], a => ⟨Nat.le_refl _, fun x hx => absurd hx List.not_mem_nil, .inl rfl⟩
  | y :: l, a => by
    obtain ⟨h1, h2, h3⟩ := foldl_min l (min a y)
    refine ⟨Nat.le_trans h1 (Nat.min_le_left _ _), fun x hx => ?_, ?_⟩
    · rcases List.mem_cons.mp hx with rfl | hx
      · exact Nat.le_trans h1 (Nat.min_le_right _ _)
      · exact h2 x hx
    · rcases h3 with h3 | h3
      · show List.foldl min (min a y) l = a ∨ _
        rw [h3]
        by_cases z : a ≤ y
        · exact .inl (Nat.min_eq_left z)
        · refine .inr ?_
          show List.foldl min (min a y) l ∈ y :: l
          rw [h3, Nat.min_eq_right (by omega)]
          exact List.mem_cons_self ..
      · exact .inr (List.mem_cons_of_mem _ h3)
theorem mem_sgns {c : Nat} {r : List It} : c ∈ sgns r ↔ .s c ∈ r := by
  unfold sgns
  rw [List.mem_filterMap]
  constructor
  · rintro ⟨i, hi, e⟩
    cases i with
    | v n => cases e
    | s d => cases e; exact hi
  · exact fun h => ⟨.s c, h, rfl⟩
theorem sgns_append (a b : List It) : sgns (a ++ b) = sgns a ++ sgns b := by unfold sgns; rw [List.filterMap_append]
theorem sgns_flat : ∀ l : List (Nat × List It), l.length ≤ (sgns (flat l)).length ∧ ∀ x ∈ l, (sgns x.2).length + 1 ≤ (sgns (flat l)).length
  | [] => ⟨Nat.le_refl _, fun x hx => absurd hx List.not_mem_nil⟩
  | (c, p) :: l => by
    obtain ⟨h1, h2⟩ := sgns_flat l
    have e : sgns (flat ((c, p) :: l)) = c :: (sgns p ++ sgns (flat l)) := by
      have : flat ((c, p) :: l) = .s c :: (p ++ flat l) := rfl
      rw [this]
      show c :: sgns (p ++ flat l) = _
      rw [sgns_append]
    have e2 : (sgns (flat ((c, p) :: l))).length = (sgns p).length + (sgns (flat l)).length + 1 := by rw [e, List.length_cons, List.length_append]
    rw [e2, List.length_cons]
    refine ⟨by omega, fun x hx => ?_⟩
    rcases List.mem_cons.mp hx with rfl | hx
    · show (sgns p).length + 1 ≤ _; omega
    · have := h2 x hx; omega
/-- both readings are one -/
theorem lawT_read : ∀ (n : Nat) (row : List It), okR false row = true → (sgns row).length ≤ n → lawT pl wd (n + 1) row = read pl wd row
  | n, row, ok, hn => by
    cases hs : sgns row with
    | nil =>
      have noS : ∀ c, .s c ∉ row := fun c hc => by
        have := mem_sgns.mpr hc
        rw [hs] at this
        cases this
      match row, ok, noS, hs with
      | [], ok, _, _ => cases ok
      | .s c :: r, _, noS, _ => exact absurd (List.mem_cons_self ..) (noS c)
      | [.v i], _, _, _ => rfl
      | .v i :: .v j :: r, ok, _, _ => cases ok
      | .v i :: .s c :: r, _, noS, _ => exact absurd (by simp) (noS c)
    | cons d ds =>
      have hn : ds.length + 1 ≤ n := by rw [hs, List.length_cons] at hn; exact hn
      obtain ⟨f1, f2, f3⟩ := foldl_min (ds.map pl) (pl d)
      have hmin : ∀ c, .s c ∈ row → minP pl d ds ≤ pl c := fun c hc => by
        have := mem_sgns.mpr hc
        rw [hs] at this
        rcases List.mem_cons.mp this with rfl | h
        · exact f1
        · exact f2 _ (List.mem_map.mpr ⟨c, h, rfl⟩)
      have hat : ∃ c, .s c ∈ row ∧ pl c = minP pl d ds := by
        rcases f3 with h | h
        · exact ⟨d, mem_sgns.mp (by rw [hs]; exact List.mem_cons_self ..), h.symm⟩
        · obtain ⟨c, hc, e⟩ := List.mem_map.mp h
          exact ⟨c, mem_sgns.mp (by rw [hs]; exact List.mem_cons_of_mem _ hc), e⟩
      have hlen : (sgns row).length = ds.length + 1 := by rw [hs]; rfl
      have eL : lawT pl wd (n + 1) row = match spl (ownP pl (minP pl d ds)) (restOf (ownP pl (minP pl d ds)) row) with
          | none => none
          | some q => partT pl wd (lawT pl wd n) (minP pl d ds) row q := by
        show (match sgns row with | [] => _ | d :: ds => _) = _
        rw [hs]
      rw [eL]
      generalize hp : minP pl d ds = p at hmin hat ⊢
      obtain ⟨m, rfl⟩ : ∃ m, n = m + 1 := ⟨n - 1, by omega⟩
      have ownE : ∀ c, ownP pl p c = true ↔ pl c = p := fun c => decide_eq_true_iff
      have ownF : ∀ c, ownP pl p c = false → .s c ∈ row → p < pl c := fun c h hc => by
        have := hmin c hc
        have h2 : pl c ≠ p := of_decide_eq_false h
        omega
      -- the rest is parted
      have main : ∀ (first : Option Nat) (rest : List It), firstOf (ownP pl p) row = first → restOf (ownP pl p) row = rest → okR false rest = true → row = hdL first ++ rest → (∀ c, first = some c → pl c = p ∧ ah c = true) →
          (∀ pre c suf, rest = pre ++ .s c :: suf → ownP pl p c = true → ah c = true → (first = none → pre ≠ [])) →
          (match spl (ownP pl p) rest with | none => none | some q => partT pl wd (lawT pl wd (m + 1)) p row q) = read pl wd row := by
        intro first rest hf hr okr erow hfc hpre
        cases hsp : spl (ownP pl p) rest with
        | none =>
          obtain ⟨pre, c, suf, e1, e2, e3⟩ := spl_none rest hsp
          have er : row = (hdL first ++ pre) ++ .s c :: suf := by rw [erow, e1, List.append_assoc]
          rw [er] at ok ⊢
          refine (run_ahead pl wd (p := p) ?_ ((ownE c).mp e2) e3 ok fun k hk => hmin k (by rw [er]; exact List.mem_append_left _ hk)).symm
          cases first with
          | some k => intro z; cases z
          | none => exact hpre pre c suf e1 e2 e3 rfl
        | some q =>
          obtain ⟨s1, s2, s3, s4⟩ := spl_some rest q false hsp okr
          obtain ⟨a, l⟩ := q
          have eR : row = hdL first ++ (a ++ flat l) := by rw [erow, s1]
          have sl : (sgns row).length = nF first + ((sgns a).length + (sgns (flat l)).length) := by
            rw [eR, sgns_append, sgns_append, List.length_append, List.length_append]
            cases first <;> rfl
          obtain ⟨g1, g2⟩ := sgns_flat l
          have memA : ∀ c, .s c ∈ a → .s c ∈ row := fun c hc => by rw [eR]; exact List.mem_append_right _ (List.mem_append_left _ hc)
          have memL : ∀ x ∈ l, ∀ c, .s c ∈ x.2 → .s c ∈ row := fun x hx c hc => by
            rw [eR]
            exact List.mem_append_right _ (List.mem_append_right _ (List.mem_flatMap.mpr ⟨x, hx, List.mem_cons_of_mem _ hc⟩))
          have some1 : nF first + l.length ≥ 1 := by
            cases first with
            | some _ => show 1 + l.length ≥ 1; omega
            | none =>
              cases l with
              | cons _ _ => rw [List.length_cons]; omega
              | nil =>
                obtain ⟨c, hc, ec⟩ := hat
                rw [eR] at hc
                have hc : .s c ∈ a := by simpa [flat, hdL] using hc
                exact absurd ((ownE c).mpr ec) (by rw [s3 c hc]; exact Bool.false_ne_true)
          have ra : lawT pl wd (m + 1) a = read pl wd a := lawT_read m a s2 (by omega)
          have rl : (l.map fun x => (x.1, lawT pl wd (m + 1) x.2)) = l.map fun x => (x.1, read pl wd x.2) := List.map_congr_left fun x hx => by
            have := g2 x hx
            rw [lawT_read m x.2 (s4 x hx).2.2.1 (by omega)]
          show (match lawT pl wd (m + 1) a with | none => none | some T0 => match allS (l.map fun x => (x.1, lawT pl wd (m + 1) x.2)) with | none => none | some ls => comb (wd p) (firstOf (ownP pl p) row) T0 ls) = read pl wd row
          rw [ra, rl, hf]
          -- the other side
          have fr := run_frame pl wd (b := p) (st := firstS p first) (fun x hx => by
            cases first with
            | none => cases hx
            | some k => rw [List.mem_singleton.mp hx]; exact Nat.le_refl _) a [] none (fun c hc => ownF c (s3 c hc) (memA c hc)) (fun x hx => absurd hx List.not_mem_nil)
          rw [List.nil_append] at fr
          have e0 : read pl wd row = fin1 (run pl wd (a ++ flat l) (firstS p first) none) := by
            rw [eR]
            cases first with
            | none => rfl
            | some k =>
              obtain ⟨k1, k2⟩ := hfc k rfl
              show fin1 (match stepI pl wd (.s k) [] none with | none => none | some q => run pl wd (a ++ flat l) q.1 q.2) = _
              have : stepI pl wd (.s k) [] none = some ([⟨p, k, none⟩], none) := by
                show (if ah k = true then pushA pl k [] else _) = _
                rw [if_pos k2]
                show some (([⟨pl k, k, none⟩] : List Wt), (none : Option T3)) = _
                rw [k1]
              rw [this]
              rfl
          rw [e0, run_append, fr]
          unfold read
          cases hr2 : run pl wd a [] none with
          | none => rfl
          | some q1 =>
            have rdy := run_ready pl wd a false [] none q1 s2 rfl hr2
            have gt := run_gt pl wd (b := p) a [] none q1 hr2 (fun c hc => ownF c (s3 c hc) (memA c hc)) (fun x hx => absurd hx List.not_mem_nil)
            obtain ⟨st1, cur⟩ := q1
            cases cur with
            | none => cases rdy
            | some t1 =>
              have rp := run_parts pl wd (p := p) l st1 (firstS p first) t1 (fun x hx => ⟨(ownE _).mp (s4 x hx).1, (s4 x hx).2.1, (s4 x hx).2.2.1, fun c hc => ownF c ((s4 x hx).2.2.2 c hc) (memL x hx c hc)⟩) gt (fun x hx => by
                cases first with
                | none => cases hx
                | some k => rw [List.mem_singleton.mp hx])
              show (match allS (l.map fun x => (x.1, read pl wd x.2)) with | none => none | some ls => comb (wd p) first (fin st1 t1) ls) = fin1 (run pl wd (flat l) (st1 ++ firstS p first) (some t1))
              rw [rp, go_comb]
      cases hf : firstOf (ownP pl p) row with
      | none =>
        have hr : restOf (ownP pl p) row = row := by unfold restOf; rw [hf]
        rw [hr]
        refine main none row hf hr ok rfl (fun c e => by cases e) fun pre c suf e1 e2 e3 _ z => ?_
        subst z
        rw [e1] at hf
        have hf : (if ownP pl p c = true then some c else none) = none := hf
        rw [if_pos e2] at hf
        cases hf
      | some k =>
        have hx : ∃ r, row = .s k :: r ∧ ownP pl p k = true := by
          cases row with
          | nil => cases hf
          | cons i r =>
            cases i with
            | v n => cases hf
            | s c =>
              have hf3 : (if ownP pl p c = true then some c else none) = some k := hf
              by_cases hk : ownP pl p c = true
              · rw [if_pos hk] at hf3; cases hf3; exact ⟨r, rfl, hk⟩
              · rw [if_neg hk] at hf3; cases hf3
        obtain ⟨r, er, hk⟩ := hx
        have hr : restOf (ownP pl p) row = r := by unfold restOf; rw [hf, er]; rfl
        rw [hr]
        have ok2 : (if ah k = true then !false && okR false r else false && okR false r) = true := by rw [er] at ok; exact ok
        by_cases ha : ah k = true
        · rw [if_pos ha] at ok2
          exact main (some k) r hf hr ok2 er (fun c' e => by cases e; exact ⟨(ownE k).mp hk, ha⟩) fun pre c' suf _ _ _ z => by cases z
        · rw [if_neg ha] at ok2; cases ok2
end
end MP.PR

namespace MP
open PySem PySem.Spec PyProof.Rows L2

def StrOk (s : List Nat) : Prop := s.length ≤ SL ∧ ∀ c ∈ s, c < 128
abbrev toS (s : List Nat) : Str := ⟨s.toArray⟩
mutual
inductive Rep (K : PySem.W.Frag) (ρ : Nat → Addr) (n : Nat) (H : Hp) : PV → V → Prop
  | non : Rep K ρ n H .non .non
  | bl (b : Bool) : Rep K ρ n H (.bl b) (.bl b)
  | int (i : Int) : Rep K ρ n H (.int i) (.int i)
  | str {s : List Nat} : StrOk s → Rep K ρ n H (.str s) (.str (toS s))
  | tup {xs : List PV} {a : Addr} {vs : List V} : SqT K H a vs → RepL K ρ n H xs vs → Rep K ρ n H (.tup xs) (.ref a)
  | ref {r : Nat} {a : Addr} : r < n → a = ρ r → Rep K ρ n H (.ref r) (.ref a)
inductive RepL (K : PySem.W.Frag) (ρ : Nat → Addr) (n : Nat) (H : Hp) : List PV → List V → Prop
  | nil : RepL K ρ n H [] []
  | cons {x : PV} {xs : List PV} {v : V} {vs : List V} : Rep K ρ n H x v → RepL K ρ n H xs vs → RepL K ρ n H (x :: xs) (v :: vs)
end
structure Le (K : PySem.W.Frag) (ρ : Nat → Addr) (n : Nat) (H : Hp) (ρ' : Nat → Addr) (n' : Nat) (H' : Hp) : Prop where
  le : n ≤ n'
  eq : ∀ r, r < n → ρ' r = ρ r
  tup : ∀ a vs, SqT K H a vs → SqT K H' a vs
theorem Le.refl {K : PySem.W.Frag} {ρ : Nat → Addr} {n : Nat} {H : Hp} : Le K ρ n H ρ n H := ⟨Nat.le_refl _, fun _ _ => rfl, fun _ _ h => h⟩
theorem Le.trans {K : PySem.W.Frag} {ρ ρ1 ρ2 : Nat → Addr} {n n1 n2 : Nat} {H H1 H2 : Hp} (a : Le K ρ n H ρ1 n1 H1) (b : Le K ρ1 n1 H1 ρ2 n2 H2) : Le K ρ n H ρ2 n2 H2 :=
  ⟨Nat.le_trans a.le b.le, fun r hr => (b.eq r (Nat.lt_of_lt_of_le hr a.le)).trans (a.eq r hr), fun x vs h => b.tup x vs (a.tup x vs h)⟩
section
variable {K : PySem.W.Frag} {ρ ρ' : Nat → Addr} {n n' : Nat} {H H' : Hp}
mutual
theorem Rep.mono (le : Le K ρ n H ρ' n' H') : ∀ {v : PV} {x : V}, Rep K ρ n H v x → Rep K ρ' n' H' v x
  | _, _, .non => .non
  | _, _, .bl b => .bl b
  | _, _, .int i => .int i
  | _, _, .str h => .str h
  | _, _, .tup h t => .tup (le.tup _ _ h) (RepL.mono le t)
  | _, _, .ref h e => .ref (Nat.lt_of_lt_of_le h le.le) (by rw [e, le.eq _ h])
theorem RepL.mono (le : Le K ρ n H ρ' n' H') : ∀ {v : List PV} {x : List V}, RepL K ρ n H v x → RepL K ρ' n' H' v x
  | _, _, .nil => .nil
  | _, _, .cons h t => .cons (Rep.mono le h) (RepL.mono le t)
end
theorem RepL.length {xs : List PV} {vs : List V} (h : RepL K ρ n H xs vs) : xs.length = vs.length := by
  induction xs generalizing vs with
  | nil => cases h; rfl
  | cons x xs ih => cases h with | cons a b => rw [List.length_cons, List.length_cons, ih b]
theorem RepL.get {xs : List PV} {vs : List V} (h : RepL K ρ n H xs vs) {i : Nat} {x : PV} (e : xs[i]? = some x) : ∃ v, vs[i]? = some v ∧ Rep K ρ n H x v := by
  induction xs generalizing vs i with
  | nil => simp at e
  | cons y xs ih =>
    cases h with
    | cons a b =>
      cases i with
      | zero => simp at e; subst e; exact ⟨_, rfl, a⟩
      | succ i => obtain ⟨v, h1, h2⟩ := ih b (by simpa using e); exact ⟨v, by simpa using h1, h2⟩
theorem RepL.append {xs ys : List PV} {vs ws : List V} (h : RepL K ρ n H xs vs) (g : RepL K ρ n H ys ws) : RepL K ρ n H (xs ++ ys) (vs ++ ws) := by
  induction xs generalizing vs with
  | nil => cases h; exact g
  | cons y xs ih => cases h with | cons a b => exact .cons a (ih b)
theorem RepL.take {xs : List PV} {vs : List V} (h : RepL K ρ n H xs vs) (k : Nat) : RepL K ρ n H (xs.take k) (vs.take k) := by
  induction xs generalizing vs k with
  | nil => cases h; rw [List.take_nil, List.take_nil]; exact .nil
  | cons y xs ih =>
    cases h with
    | cons a b =>
      cases k with
      | zero => exact .nil
      | succ k => exact .cons a (ih b k)
theorem RepL.drop {xs : List PV} {vs : List V} (h : RepL K ρ n H xs vs) (k : Nat) : RepL K ρ n H (xs.drop k) (vs.drop k) := by
  induction xs generalizing vs k with
  | nil => cases h; rw [List.drop_nil, List.drop_nil]; exact .nil
  | cons y xs ih =>
    cases h with
    | cons a b =>
      cases k with
      | zero => exact .cons a b
      | succ k => exact ih b k
theorem RepL.set {xs : List PV} {vs : List V} (h : RepL K ρ n H xs vs) (k : Nat) {x : PV} {v : V} (r : Rep K ρ n H x v) : RepL K ρ n H (xs.set k x) (vs.set k v) := by
  induction xs generalizing vs k with
  | nil => cases h; exact .nil
  | cons y xs ih =>
    cases h with
    | cons a b =>
      cases k with
      | zero => exact .cons r b
      | succ k => exact .cons a (ih b k)
theorem RepL.reverse {xs : List PV} {vs : List V} (h : RepL K ρ n H xs vs) : RepL K ρ n H xs.reverse vs.reverse := by
  induction xs generalizing vs with
  | nil => cases h; exact .nil
  | cons y xs ih =>
    cases h with
    | cons a b =>
      rw [List.reverse_cons, List.reverse_cons]
      exact (ih b).append (.cons a .nil)
theorem RepL.dropLast {xs : List PV} {vs : List V} (h : RepL K ρ n H xs vs) : RepL K ρ n H xs.dropLast vs.dropLast := by
  rw [List.dropLast_eq_take, List.dropLast_eq_take, h.length]; exact h.take _
theorem RepL.rep {xs : List PV} {vs : List V} (h : RepL K ρ n H xs vs) : ∀ k : Nat, RepL K ρ n H (List.replicate k xs).flatten (List.replicate k vs).flatten
  | 0 => .nil
  | k + 1 => by
    rw [List.replicate_succ, List.replicate_succ, List.flatten_cons, List.flatten_cons]
    exact h.append (h.rep k)
theorem RepL.ints : ∀ (ns : List Int), RepL K ρ n H (intsPV ns) (ns.map V.int)
  | [] => .nil
  | i :: r => .cons (.int i) (RepL.ints r)
theorem RepL.strs : ∀ (ns : List (List Nat)), (∀ s ∈ ns, StrOk s) → RepL K ρ n H (strsPV ns) ((ns.map toS).map V.str)
  | [], _ => .nil
  | i :: r, h => .cons (.str (h i (List.mem_cons_self ..))) (RepL.strs r fun s hs => h s (List.mem_cons_of_mem _ hs))

/-! ### objects -/
inductive KeyR : PV → Key → Prop
  | int (i : Int) : KeyR (.int i) (.inl i)
  | str {s : List Nat} : StrOk s → KeyR (.str s) (.inr (toS s))
def RepK (K : PySem.W.Frag) (ρ : Nat → Addr) (n : Nat) (H : Hp) : List (PV × PV) → List (Key × V) → Prop := Paired fun p q => KeyR p.1 q.1 ∧ Rep K ρ n H p.2 q.2
theorem RepK.mono (le : Le K ρ n H ρ' n' H') {v : List (PV × PV)} {x : List (Key × V)} (h : RepK K ρ n H v x) : RepK K ρ' n' H' v x := Paired.mapP h fun _ _ q => ⟨q.1, q.2.mono le⟩
/-- a list that none may write -/
def FrzL (K : PySem.W.Frag) (H : Hp) (a : Addr) (vs : List V) : Prop :=
  (∃ o, H a = some (.frz o (.lst vs))) ∨ ∃ (o : Obj) (its : Array Value) (k : Nat), K.lookup a = some o ∧ o.cls = .type "list" ∧ o.dict = none ∧ o.data = .seq its k ∧ its.size ≤ sizeLine ∧ Vals vs its.toList
theorem FrzL.sql {a : Addr} {vs : List V} (h : FrzL K H a vs) : SqL K H a vs := by
  rcases h with ⟨o, h⟩ | h
  · exact .inl (.inr ⟨o, h⟩)
  · exact .inr h
/-- an exception that was caught -/
def ExT (C a : Addr) : HO := .ext fun h => ∃ (oe : Obj) (vs : Array Value), h.get? a = some oe ∧ Zc (.ref C) none oe ∧ oe.data = .fields vs
def ObjRel (K : PySem.W.Frag) (cA : Nat → Addr) (ρ : Nat → Addr) (n : Nat) (H : Hp) (a : Addr) : LO → Prop
  | .lst xs => ∃ vs, H a = some (.lst vs) ∧ RepL K ρ n H xs vs
  | .frz xs => ∃ vs, FrzL K H a vs ∧ RepL K ρ n H xs vs
  | .dk kvs => ∃ kw, H a = some (.dK kw) ∧ RepK K ρ n H kvs kw
  | .exc c => H a = some (ExT (cA c) a)
  | _ => False
def LO.mut : LO → Bool
  | .frz _ => false
  | _ => true
theorem ObjRel.mono {cA : Nat → Addr} {a : Addr} {o : LO} (x : ObjRel K cA ρ n H a o) (le : Le K ρ n H ρ' n' H') (e : ∀ u, H a = some u → H' a = some u) : ObjRel K cA ρ' n' H' a o := by
  cases o with
  | lst xs => obtain ⟨vs, h, r⟩ := x; exact ⟨vs, e _ h, r.mono le⟩
  | frz xs =>
    obtain ⟨vs, h, r⟩ := x
    refine ⟨vs, ?_, r.mono le⟩
    rcases h with ⟨o, h⟩ | h
    · exact .inl ⟨o, e _ h⟩
    · exact .inr h
  | dk kvs => obtain ⟨kw, h, r⟩ := x; exact ⟨kw, e _ h, r.mono le⟩
  | dn kvs => exact x.elim
  | ins c fs => exact x.elim
  | exc c => exact e _ x
  | st xs => exact x.elim
structure Sim (K : PySem.W.Frag) (cA : Nat → Addr) (ρ : Nat → Addr) (h : Hq) (H : Hp) : Prop where
  obj : ∀ r o, h.get r = some o → ObjRel K cA ρ h.n H (ρ r) o
  inj : ∀ r s o o', h.get r = some o → h.get s = some o' → o.mut = true → o'.mut = true → r ≠ s → ρ r ≠ ρ s
theorem ObjRel.there {cA : Nat → Addr} {a : Addr} {o : LO} (x : ObjRel K cA ρ n H a o) (m : o.mut = true) : H a ≠ none := by
  cases o with
  | lst xs => obtain ⟨vs, h, r⟩ := x; rw [h]; simp
  | frz xs => cases m
  | dk kvs => obtain ⟨kw, h, r⟩ := x; rw [h]; simp
  | dn kvs => exact x.elim
  | ins c fs => exact x.elim
  | exc c => rw [show H a = some (ExT (cA c) a) from x]; simp
  | st xs => exact x.elim
end
def extR (ρ : Nat → Addr) (n : Nat) (p : Addr) : Nat → Addr := fun r => if r = n then p else ρ r
theorem extR_self (ρ : Nat → Addr) (n : Nat) (p : Addr) : extR ρ n p n = p := if_pos rfl
section
variable {K : PySem.W.Frag} {cA : Nat → Addr} {ρ : Nat → Addr} {h : Hq} {H : Hp} {p : Addr}
theorem upd_keep {u : HO} (hp : H p = none) : ∀ a o, H a = some o → upd H p u a = some o := fun a o e => by rw [upd_ne (ne_of_none e hp)]; exact e
theorem le_new {u : HO} (hp : H p = none) : Le K ρ h.n H (extR ρ h.n p) (h.n + 1) (upd H p u) :=
  ⟨Nat.le_succ _, fun r hr => if_neg (Nat.ne_of_lt hr), fun a vs q => by
    rcases q with (q | ⟨o, q⟩) | q
    · exact .inl (.inl (upd_keep hp _ _ q))
    · exact .inl (.inr ⟨o, upd_keep hp _ _ q⟩)
    · exact .inr q⟩
theorem le_upd {u : HO} {n : Nat} (hp : H p = none) : Le K ρ n H ρ n (upd H p u) :=
  ⟨Nat.le_refl _, fun r hr => rfl, fun a vs q => by
    rcases q with (q | ⟨o, q⟩) | q
    · exact .inl (.inl (upd_keep hp _ _ q))
    · exact .inl (.inr ⟨o, upd_keep hp _ _ q⟩)
    · exact .inr q⟩
/-- something new is tracked that no value names yet (a tuple) -/
theorem Sim.grow {u : HO} (sim : Sim K cA ρ h H) (hp : H p = none) : Sim K cA ρ h (upd H p u) :=
  ⟨fun r o e => (sim.obj r o e).mono (le_upd hp) (upd_keep hp _), sim.inj⟩
/-- a new object -/
theorem Sim.push {u : HO} {o : LO} (sim : Sim K cA ρ h H) (hp : H p = none) (ho : ObjRel K cA (extR ρ h.n p) (h.n + 1) (upd H p u) p o) : Sim K cA (extR ρ h.n p) (h.push o) (upd H p u) := by
  refine ⟨fun r o' e => ?_, fun r s o1 o2 e1 e2 m1 m2 hne => ?_⟩
  · rw [Hq.get_push] at e
    by_cases hr : r = h.n
    · rw [if_pos hr] at e; cases e; subst hr; rw [extR_self]; exact ho
    · rw [if_neg hr] at e
      rw [show extR ρ h.n p r = ρ r from if_neg hr]
      exact (sim.obj r o' e).mono (le_new hp) (upd_keep hp _)
  · rw [Hq.get_push] at e1 e2
    by_cases hr : r = h.n
    · rw [if_neg (fun q => hne (hr.trans q.symm))] at e2
      have hs : ¬ s = h.n := fun q => hne (hr.trans q.symm)
      rw [show extR ρ h.n p r = p from if_pos hr, show extR ρ h.n p s = ρ s from if_neg hs]
      exact fun q => (sim.obj s o2 e2).there m2 (by rw [← q]; exact hp)
    · rw [if_neg hr] at e1
      by_cases hs : s = h.n
      · rw [show extR ρ h.n p r = ρ r from if_neg hr, show extR ρ h.n p s = p from if_pos hs]
        exact fun q => (sim.obj r o1 e1).there m1 (by rw [q]; exact hp)
      · rw [if_neg hs] at e2
        rw [show extR ρ h.n p r = ρ r from if_neg hr, show extR ρ h.n p s = ρ s from if_neg hs]
        exact sim.inj r s o1 o2 e1 e2 m1 m2 hne
/-- what may be written -/
def Wr : Option HO → Prop
  | some (.lst _) => True
  | some (.dK _) => True
  | _ => False
theorem le_wr {u : HO} {n : Nat} {a : Addr} (hw : Wr (H a)) : Le K ρ n H ρ n (upd H a u) :=
  ⟨Nat.le_refl _, fun r hr => rfl, fun b vs q => by
    have ne : ∀ o, H b = some o → ¬ Wr (some o) → upd H a u b = some o := fun o e w => by
      rw [upd_ne (fun z => by subst z; rw [e] at hw; exact w hw)]; exact e
    rcases q with (q | ⟨o, q⟩) | q
    · exact .inl (.inl (ne _ q fun z => z))
    · exact .inl (.inr ⟨o, ne _ q fun z => z⟩)
    · exact .inr q⟩
/-- an object written -/
theorem Sim.write {u : HO} {r : Nat} {o o' : LO} (sim : Sim K cA ρ h H) (e : h.get r = some o) (m : o.mut = true) (m' : o'.mut = true) (hw : Wr (H (ρ r))) (ho : ObjRel K cA ρ h.n (upd H (ρ r) u) (ρ r) o') : Sim K cA ρ (h.set r o') (upd H (ρ r) u) := by
  have hr : r < h.n := Hq.get_lt e
  refine ⟨fun s o1 e1 => ?_, fun s t o1 o2 e1 e2 m1 m2 hne => ?_⟩
  · rw [Hq.get_set h r s o' hr] at e1
    by_cases hs : s = r
    · rw [if_pos hs] at e1; cases e1; subst hs; exact ho
    · rw [if_neg hs] at e1
      by_cases hm : o1.mut = true
      · refine (sim.obj s o1 e1).mono (le_wr hw) fun w q => ?_
        rw [upd_ne (sim.inj s r o1 o e1 e hm m hs)]; exact q
      · cases o1 with
        | frz xs =>
          obtain ⟨vs, hf, rp⟩ := sim.obj s _ e1
          refine ⟨vs, ?_, rp.mono (le_wr hw)⟩
          rcases hf with ⟨ob, hf⟩ | hf
          · refine .inl ⟨ob, ?_⟩
            rw [upd_ne (fun z => by rw [z] at hf; rw [hf] at hw; exact hw)]
            exact hf
          · exact .inr hf
        | _ => exact absurd rfl hm
  · rw [Hq.get_set h r _ o' hr] at e1 e2
    have h1 : ∃ o1', h.get s = some o1' ∧ o1'.mut = true := by
      by_cases hs : s = r
      · subst hs; exact ⟨o, e, m⟩
      · rw [if_neg hs] at e1; exact ⟨o1, e1, m1⟩
    have h2 : ∃ o1', h.get t = some o1' ∧ o1'.mut = true := by
      by_cases hs : t = r
      · subst hs; exact ⟨o, e, m⟩
      · rw [if_neg hs] at e2; exact ⟨o2, e2, m2⟩
    obtain ⟨p1, q1, w1⟩ := h1
    obtain ⟨p2, q2, w2⟩ := h2
    exact sim.inj s t p1 p2 q1 q2 w1 w2 hne
end
end MP

namespace MP
open PySem PySem.Spec PyProof.Rows L2

section
variable (K : PySem.W.Frag) (cA : Nat → Addr)
/-- what must hold of a value and a heap that an expression gives -/
def PostV (ρ : Nat → Addr) (h : Hq) (H : Hp) (Q : VK) : PV → Hq → Prop := fun v h' =>
  ∀ ρ' H' u, Le K ρ h.n H ρ' h'.n H' → Sim K cA ρ' h' H' → Rep K ρ' h'.n H' v u → Q u H'
def PostX (ρ : Nat → Addr) (h : Hq) (H : Hp) (W : WX) (σ : L2.St) : Nat → Hq → Prop := fun c h' =>
  ∀ ρ' H', Le K ρ h.n H ρ' h'.n H' → Sim K cA ρ' h' H' → W (.ref (cA c)) none σ H'
/-- a two-place operation's reading -/
def L2f (f : Hq → PV → PV → Res PV) : R2 := fun x y H Q => ∃ ρ h v w E, Sim K cA ρ h H ∧ Rep K ρ h.n H v x ∧ Rep K ρ h.n H w y ∧ (f h v w).wp (PostV K cA ρ h H Q) E
def L1f (f : Hq → PV → Res PV) : V → Hp → VK → Prop := fun x H Q => ∃ ρ h v E, Sim K cA ρ h H ∧ Rep K ρ h.n H v x ∧ (f h v).wp (PostV K cA ρ h H Q) E
def Lsf (f : Hq → List PV → Res PV) : List V → Hp → VK → Prop := fun xs H Q => ∃ ρ h vs E, Sim K cA ρ h H ∧ RepL K ρ h.n H vs xs ∧ (f h vs).wp (PostV K cA ρ h H Q) E
end
section
variable {K : PySem.W.Frag} {cA : Nat → Addr} {ρ ρ' : Nat → Addr} {h h1 h' : Hq} {H H1 H' : Hp} {Q : VK}
theorem PostV.from {v : PV} {h1 : Hq} {ρ1 : Nat → Addr} {h2 : Hq} (le : Le K ρ h.n H ρ1 h1.n H1) (p : PostV K cA ρ h H Q v h2) : PostV K cA ρ1 h1 H1 Q v h2 := fun ρ' H' u l s r => p ρ' H' u (le.trans l) s r
theorem PostX.from {c : Nat} {W : WX} {σ : L2.St} {h1 : Hq} {ρ1 : Nat → Addr} {h2 : Hq} (le : Le K ρ h.n H ρ1 h1.n H1) (p : PostX K cA ρ h H W σ c h2) : PostX K cA ρ1 h1 H1 W σ c h2 := fun ρ' H' l s => p ρ' H' (le.trans l) s
theorem PostV.now {v : PV} {u : V} (p : PostV K cA ρ h H Q v h) (sim : Sim K cA ρ h H) (r : Rep K ρ h.n H v u) : Q u H := p ρ H u Le.refl sim r
theorem okIf_wp {b : Bool} {t : Res PV} {P : PV → Hq → Prop} {E : Nat → Hq → Prop} (h : (okIf b t).wp P E) : b = true ∧ t.wp P E := by
  unfold okIf at h
  by_cases e : b = true
  · rw [if_pos e] at h; exact ⟨e, h⟩
  · rw [if_neg e] at h; exact h.elim
theorem le_of {a b : Nat} (h : le' a b = true) : a ≤ b := Nat.le_of_ble_eq_true h
/-- a new list -/
theorem PostV.lst {xs : List PV} {vs : List V} {p : Addr} (P : PostV K cA ρ h H Q (.ref h.n) (h.push (.lst xs))) (sim : Sim K cA ρ h H) (r : RepL K ρ h.n H xs vs) (hp : H p = none) : Q (.ref p) (upd H p (.lst vs)) := by
  refine P (extR ρ h.n p) _ _ (le_new hp) (sim.push hp ⟨vs, upd_same, r.mono (le_new hp)⟩) (.ref (Nat.lt_succ_self _) (extR_self ..).symm)
/-- a new tuple -/
theorem PostV.tup {xs : List PV} {vs : List V} {p : Addr} (P : PostV K cA ρ h H Q (.tup xs) h) (sim : Sim K cA ρ h H) (r : RepL K ρ h.n H xs vs) (hp : H p = none) : Q (.ref p) (upd H p (.tup vs)) :=
  P ρ _ _ (le_upd hp) (sim.grow hp) (.tup (.inl (.inl upd_same)) (r.mono (le_upd hp)))
theorem Rep.int_inv {i : Int} {n : Nat} {x : V} (r : Rep K ρ n H (.int i) x) : x = .int i := by cases r; rfl
theorem Rep.bl_inv {b : Bool} {n : Nat} {x : V} (r : Rep K ρ n H (.bl b) x) : x = .bl b := by cases r; rfl
theorem Rep.non_inv {n : Nat} {x : V} (r : Rep K ρ n H .non x) : x = .non := by cases r; rfl
theorem Rep.str_inv {s : List Nat} {n : Nat} {x : V} (r : Rep K ρ n H (.str s) x) : x = .str (toS s) ∧ StrOk s := by cases r with | str h => exact ⟨rfl, h⟩
theorem Rep.tup_inv {xs : List PV} {n : Nat} {x : V} (r : Rep K ρ n H (.tup xs) x) : ∃ a vs, x = .ref a ∧ SqT K H a vs ∧ RepL K ρ n H xs vs := by cases r with | tup a b => exact ⟨_, _, rfl, a, b⟩
theorem Rep.ref_inv {r n : Nat} {x : V} (q : Rep K ρ n H (.ref r) x) : x = .ref (ρ r) := by cases q with | ref _ e => rw [e]
theorem Sim.lst {r : Nat} {xs : List PV} (sim : Sim K cA ρ h H) (e : h.get r = some (.lst xs)) : ∃ vs, H (ρ r) = some (.lst vs) ∧ RepL K ρ h.n H xs vs := sim.obj r _ e
theorem Sim.getL {r : Nat} {xs : List PV} (sim : Sim K cA ρ h H) (e : getL h r = some xs) : ∃ vs, SqL K H (ρ r) vs ∧ RepL K ρ h.n H xs vs := by
  unfold MP.getL at e
  cases q : h.get r with
  | none => rw [q] at e; cases e
  | some o =>
    rw [q] at e
    cases o with
    | lst ys => cases e; obtain ⟨vs, a, b⟩ := sim.obj r _ q; exact ⟨vs, SqL.of a, b⟩
    | frz ys => cases e; obtain ⟨vs, a, b⟩ := sim.obj r _ q; exact ⟨vs, a.sql, b⟩
    | _ => cases e
theorem StrOk.append {s t : List Nat} (a : StrOk s) (b : StrOk t) (l : s.length + t.length ≤ SL) : StrOk (s ++ t) :=
  ⟨by rw [List.length_append]; exact l, fun c hc => (List.mem_append.mp hc).elim (a.2 c) (b.2 c)⟩
theorem StrOk.one {c : Nat} (h : c < 128) : StrOk [c] := ⟨(by decide : 1 ≤ SL), fun d hd => by rw [List.mem_singleton.mp hd]; exact h⟩
theorem toS_len (s : List Nat) : (toS s).length = s.length := by simp [toS, Str.length]
theorem toS_append (s t : List Nat) : toS s ++ toS t = toS (s ++ t) := by
  show (⟨s.toArray ++ t.toArray⟩ : Str) = ⟨(s ++ t).toArray⟩
  simp
theorem toS_inj {s t : List Nat} (h : toS s = toS t) : s = t := by injection h with h; simpa using h
end

section
variable {X : Cx} {cA : Nat → Addr}
theorem sl_eq : (sizeLine : Nat) = SL := rfl
theorem op_addS : OpR X (binaryOp .Add) (L2f X.K cA addS) := by
  intro pins s σ H x y v u Q I rx ry hh
  obtain ⟨ρ, h, a, b, E, sim, ra, rb, hw⟩ := hh
  cases a <;> cases b <;> try exact hw.elim
  · rename_i i j
    obtain rfl := ra.int_inv
    obtain rfl := rb.int_inv
    exact op_add pins s σ H _ _ v u Q I rx ry ⟨i, j, rfl, rfl, PostV.now hw sim (.int _)⟩
  · rename_i i j
    obtain ⟨rfl, oi⟩ := ra.str_inv
    obtain ⟨rfl, oj⟩ := rb.str_inv
    obtain ⟨hl, hw⟩ := okIf_wp hw
    have hl := le_of hl
    refine op_add_str pins s σ H _ _ v u Q I rx ry ⟨_, _, rfl, rfl, by rw [toS_len, toS_len]; exact hl, ?_⟩
    rw [toS_append]
    exact PostV.now hw sim (.str (oi.append oj hl))
  · rename_i xs ys
    obtain ⟨p, vs, rfl, tp, rp⟩ := ra.tup_inv
    obtain ⟨q, ws, rfl, tq, rq⟩ := rb.tup_inv
    obtain ⟨hl, hw⟩ := okIf_wp hw
    have hl := le_of hl
    refine op_catA pins s σ H _ _ v u Q I rx ry ⟨p, q, vs, ws, rfl, rfl, tp, tq, by rw [← rp.length, ← rq.length]; exact hl, fun e => ?_, fun _ e => ?_, fun _ _ r hr => PostV.tup hw sim (rp.append rq) hr⟩
    · subst e; cases rp; exact PostV.now hw sim (.tup tq rq)
    · subst e; cases rq; rw [List.append_nil] at hw; exact PostV.now hw sim (.tup tp rp)
  · rename_i r q
    obtain rfl := ra.ref_inv
    obtain rfl := rb.ref_inv
    simp only [addS] at hw
    split at hw
    · rename_i xs e1
      split at hw
      · rename_i ys e2
        obtain ⟨hl, hw⟩ := okIf_wp hw
        have hl := le_of hl
        obtain ⟨vs, a1, r1⟩ := sim.lst e1
        obtain ⟨ws, a2, r2⟩ := sim.lst e2
        exact op_cat pins s σ H _ _ v u Q I rx ry ⟨_, _, vs, ws, rfl, rfl, a1, a2, by rw [← r1.length, ← r2.length]; exact hl, fun p hp => PostV.lst hw sim (r1.append r2) hp⟩
      · exact hw.elim
    · exact hw.elim
theorem op_subS : OpR X (binaryOp .Sub) (L2f X.K cA (binS .sub)) := by
  intro pins s σ H x y v u Q I rx ry hh
  obtain ⟨ρ, h, a, b, E, sim, ra, rb, hw⟩ := hh
  cases a <;> cases b <;> try exact hw.elim
  rename_i i j
  obtain rfl := ra.int_inv
  obtain rfl := rb.int_inv
  exact op_sub pins s σ H _ _ v u Q I rx ry ⟨i, j, rfl, rfl, PostV.now hw sim (.int _)⟩
theorem op_fdivS : OpR X (binaryOp .FloorDiv) (L2f X.K cA (binS .fdiv)) := by
  intro pins s σ H x y v u Q I rx ry hh
  obtain ⟨ρ, h, a, b, E, sim, ra, rb, hw⟩ := hh
  cases a <;> cases b <;> try exact hw.elim
  rename_i i j
  obtain rfl := ra.int_inv
  obtain rfl := rb.int_inv
  obtain ⟨hl, hw⟩ := okIf_wp hw
  rw [Bool.and_eq_true] at hl
  exact op_fdiv pins s σ H _ _ v u Q I rx ry ⟨i, j, rfl, rfl, ⟨of_decide_eq_true hl.1, of_decide_eq_true hl.2⟩, PostV.now hw sim (.int _)⟩
theorem op_modS : OpR X (binaryOp .Mod) (L2f X.K cA (binS .mod)) := by
  intro pins s σ H x y v u Q I rx ry hh
  obtain ⟨ρ, h, a, b, E, sim, ra, rb, hw⟩ := hh
  cases a <;> cases b <;> try exact hw.elim
  rename_i i j
  obtain rfl := ra.int_inv
  obtain rfl := rb.int_inv
  obtain ⟨hl, hw⟩ := okIf_wp hw
  exact op_mod pins s σ H _ _ v u Q I rx ry ⟨i, j, rfl, rfl, of_decide_eq_true hl, PostV.now hw sim (.int _)⟩
theorem op_powS : OpR X (binaryOp .Pow) (L2f X.K cA (binS .pow)) := by
  intro pins s σ H x y v u Q I rx ry hh
  obtain ⟨ρ, h, a, b, E, sim, ra, rb, hw⟩ := hh
  cases a <;> cases b <;> try exact hw.elim
  rename_i i j
  obtain rfl := ra.int_inv
  obtain rfl := rb.int_inv
  obtain ⟨hl, hw⟩ := okIf_wp hw
  rw [Bool.and_eq_true, Bool.and_eq_true] at hl
  exact op_pow pins s σ H _ _ v u Q I rx ry ⟨i, j, rfl, rfl, ⟨of_decide_eq_true hl.1.1, of_decide_eq_true hl.1.2, of_decide_eq_true hl.2⟩, PostV.now hw sim (.int _)⟩
theorem lt64_of {i : Int} (h : lt64 i = true) : -(2 ^ 64) < i ∧ i < 2 ^ 64 := by
  unfold lt64 at h
  rw [Bool.and_eq_true] at h
  exact ⟨of_decide_eq_true h.1, of_decide_eq_true h.2⟩
theorem op_negS : UnR X (unaryOp .USub) (L1f X.K cA fun h v => negF v h) := by
  intro pins s σ H x v Q I rx hh
  obtain ⟨ρ, h, a, E, sim, ra, hw⟩ := hh
  cases a <;> try exact hw.elim
  rename_i i
  obtain rfl := ra.int_inv
  exact un_neg pins s σ H _ v Q I rx ⟨i, rfl, PostV.now hw sim (.int _)⟩
end
end MP

namespace MP
open PySem PySem.Spec PyProof.Rows L2

/-! ### a text times an int -/
theorem rep_cps (s : List Nat) : ∀ k : Nat, (List.replicate k s.toArray).foldl (· ++ ·) (#[] : Array Nat) = (List.replicate k s).flatten.toArray := by
  have g : ∀ (k : Nat) (acc : List Nat), (List.replicate k s.toArray).foldl (· ++ ·) acc.toArray = (acc ++ (List.replicate k s).flatten).toArray := by
    intro k
    induction k with
    | zero => intro acc; simp
    | succ k ih =>
      intro acc
      rw [List.replicate_succ, List.foldl_cons]
      have e : acc.toArray ++ s.toArray = (acc ++ s).toArray := by simp
      rw [e, ih, List.replicate_succ, List.flatten_cons, List.append_assoc]
  intro k
  have := g k []
  simpa using this
theorem flat_len {α : Type} (s : List α) : ∀ k : Nat, (List.replicate k s).flatten.length = k * s.length
  | 0 => by simp
  | k + 1 => by rw [List.replicate_succ, List.flatten_cons, List.length_append, flat_len s k, Nat.succ_mul, Nat.add_comm]
theorem StrOk.rep {s : List Nat} (h : StrOk s) (k : Nat) (hl : k * s.length ≤ SL) : StrOk (List.replicate k s).flatten := by
  refine ⟨by rw [flat_len]; exact hl, fun c hc => ?_⟩
  obtain ⟨l, hl, hc⟩ := List.mem_flatten.mp hc
  rw [(List.mem_replicate.mp hl).2] at hc
  exact h.2 c hc
section
variable {X : Cx} {cA : Nat → Addr}
theorem op_mulT : OpR X (binaryOp .Mult) (fun x y H Q => ∃ (s : List Nat) (k : Int), x = .str (toS s) ∧ y = .int k ∧ 0 ≤ k ∧ k ≤ 100000 ∧ s.length ≤ 100 ∧ Q (.str (toS (List.replicate k.toNat s).flatten)) H) := by
  intro pins s σ H x y v u Q I rx ry hh
  obtain ⟨z, k, rfl, rfl, h0, h1, h2, hq⟩ := hh
  obtain ⟨t, rfl⟩ := rx
  obtain ⟨t', rfl⟩ := ry
  have el : (toS z).length = z.length := toS_len z
  refine PySem.P.mul_str ?_ ?_ ?_ ?_
  · have a1 : ¬ k < -(2 ^ 63 : Int) := by omega
    have a2 : ¬ k ≥ 2 ^ 63 := by omega
    rw [decide_eq_false a1, decide_eq_false a2]; rfl
  · intro a b
    have hk : 1 ≤ k := by omega
    have h3 : ((toS z).length : Int) * k ≤ 100 * 100000 := Int.mul_le_mul (by rw [el]; omega) h1 (by omega) (by omega)
    have : ((toS z).length : Int) ≤ (2 ^ 63 - 1) / k := (Int.le_ediv_iff_mul_le (by omega)).mpr (by omega)
    omega
  · intro a b
    have : (toS z).length * k.toNat ≤ 100 * 100000 := Nat.mul_le_mul (by rw [el]; exact h2) (by omega)
    simp only [Builtin.Str.tooLong]
    rw [decide_eq_false]
    have : (sizeLine : Nat) = 16777216 := rfl
    omega
  · by_cases c1 : k < 1
    · rw [if_pos c1]
      have hk : k = 0 := by omega
      subst hk
      exact ⟨by decide, .str _, H, I.tok _, ⟨_, rfl⟩, hq⟩
    · rw [if_neg c1]
      by_cases c2 : (k == 1 || (toS z).length == 0) = true
      · rw [if_pos c2]
        have e : (List.replicate k.toNat z).flatten = z := by
          rw [Bool.or_eq_true] at c2
          rcases c2 with c2 | c2
          · have : k = 1 := by simpa using c2
            subst this
            simp
          · have : z = [] := by
              rw [el] at c2
              exact List.length_eq_zero_iff.mp (by simpa using c2)
            subst this
            simp
        rw [e] at hq
        exact ⟨.str _, H, I, ⟨_, rfl⟩, hq⟩
      · rw [if_neg c2]
        have e : (⟨(List.replicate k.toNat (toS z).cps).foldl (· ++ ·) #[]⟩ : Str) = toS (List.replicate k.toNat z).flatten := by
          show (⟨_⟩ : Str) = ⟨_⟩
          rw [← rep_cps]
        rw [e]
        refine ⟨?_, .str _, H, I.tok _, ⟨_, rfl⟩, hq⟩
        rw [toS_len, flat_len]
        have : k.toNat * z.length ≤ 100000 * 100 := Nat.mul_le_mul (by omega) h2
        show _ ≤ 16777216
        omega
theorem op_mulS : OpR X (binaryOp .Mult) (L2f X.K cA mulS) := by
  intro pins s σ H x y v u Q I rx ry hh
  obtain ⟨ρ, h, a, b, E, sim, ra, rb, hw⟩ := hh
  cases a <;> cases b <;> try exact hw.elim
  · rename_i i j
    obtain rfl := ra.int_inv
    obtain rfl := rb.int_inv
    obtain ⟨hl, hw⟩ := okIf_wp hw
    rw [Bool.or_eq_true] at hl
    exact op_mul pins s σ H _ _ v u Q I rx ry ⟨i, j, rfl, rfl, hl.imp lt64_of lt64_of, PostV.now hw sim (.int _)⟩
  · rename_i z k
    obtain ⟨rfl, oi⟩ := ra.str_inv
    obtain rfl := rb.int_inv
    obtain ⟨hl, hw⟩ := okIf_wp hw
    rw [Bool.and_eq_true, Bool.and_eq_true] at hl
    have h0 := of_decide_eq_true hl.1.1
    have h1 := of_decide_eq_true hl.1.2
    have h2 := le_of hl.2
    refine op_mulT pins s σ H _ _ v u Q I rx ry ⟨z, k, rfl, rfl, h0, h1, h2, PostV.now hw sim (.str (oi.rep _ ?_))⟩
    have : k.toNat * z.length ≤ 100000 * 100 := Nat.mul_le_mul (by omega) h2
    show _ ≤ 16777216
    omega
  · rename_i xs k
    obtain ⟨p, vs, rfl, tp, rp⟩ := ra.tup_inv
    obtain rfl := rb.int_inv
    simp only [mulS] at hw
    obtain ⟨hl, hw⟩ := okIf_wp hw
    rw [Bool.and_eq_true, Bool.and_eq_true, Bool.and_eq_true] at hl
    have h0 := of_decide_eq_true hl.1.1.1
    have h1 := of_decide_eq_true hl.1.1.2
    have h2 := le_of hl.1.2
    have h3 : xs ≠ [] := by
      intro e
      rw [e] at hl
      exact absurd hl.2 (by decide)
    refine op_repT pins s σ H _ _ v u Q I rx ry ⟨p, k, vs, rfl, rfl, tp, fun e => h3 ?_, h0, h1, by rw [← rp.length]; exact h2, fun r hr => PostV.tup hw sim (rp.rep _) hr⟩
    have := rp.length
    rw [e] at this
    exact List.length_eq_zero_iff.mp this
  · rename_i r k
    obtain rfl := ra.ref_inv
    obtain rfl := rb.int_inv
    simp only [mulS] at hw
    split at hw
    · rename_i xs e1
      obtain ⟨hl, hw⟩ := okIf_wp hw
      rw [Bool.and_eq_true, Bool.and_eq_true] at hl
      obtain ⟨vs, a1, r1⟩ := sim.lst e1
      exact op_rep pins s σ H _ _ v u Q I rx ry ⟨_, k, vs, rfl, rfl, a1, of_decide_eq_true hl.1.1, of_decide_eq_true hl.1.2, by rw [← r1.length]; exact le_of hl.2, fun p hp => PostV.lst hw sim (r1.rep _) hp⟩
    · exact hw.elim

/-! ### == -/
theorem strOk_of {s : List Nat} (h : StrOk s) : PyData.canLay0 (.str (toS s)) = true := by
  show PyData.canLay0 _ = _
  unfold PyData.canLay0
  show (toS s).cps.all (· < 0x110000) = true
  rw [Array.all_eq_true]
  intro i hi
  have : (toS s).cps[i] < 128 := h.2 _ (by
    have : (toS s).cps[i] ∈ (toS s).cps := Array.getElem_mem hi
    simpa [toS] using this)
  exact decide_eq_true (by omega)
theorem toD_ok {K : PySem.W.Frag} {ρ : Nat → Addr} {h : Hq} {H : Hp} (sim : Sim K cA ρ h H) : ∀ (k : Nat) (v : PV) (x : V) (d : PyData), toD h k v = some d → Rep K ρ h.n H v x → Dp K H x d ∧ d.canLay0 = true ∧ d.depth ≤ k := by
  intro k
  induction k with
  | zero =>
    intro v x d e r
    cases v with
    | non => cases e; cases r; exact ⟨.non, by simp [PyData.canLay0], by simp [PyData.depth]⟩
    | bl b => cases e; cases r; exact ⟨.bl b, by simp [PyData.canLay0], by simp [PyData.depth]⟩
    | int i => cases e; cases r; exact ⟨.int i, by simp [PyData.canLay0], by simp [PyData.depth]⟩
    | str s => cases e; obtain ⟨rfl, o⟩ := r.str_inv; exact ⟨.str _, strOk_of o, by simp [PyData.depth]⟩
    | tup xs => cases e
    | ref q => cases e
  | succ k ih =>
    have list : ∀ (xs : List PV) (vs : List V) (ds : List PyData), mapO (toD h k) xs = some ds → RepL K ρ h.n H xs vs → DpAll K H vs ds ∧ PyData.canLayAll0 ds = true ∧ PyData.depthAll ds ≤ k := by
      intro xs
      induction xs with
      | nil => intro vs ds e r; cases e; cases r; exact ⟨.nil, by simp [PyData.canLayAll0], by simp [PyData.depthAll]⟩
      | cons y xs ihx =>
        intro vs ds e r
        cases r with
        | cons r1 r2 =>
          unfold mapO at e
          split at e
          · rename_i d1 e1
            split at e
            · rename_i ds1 e2
              cases e
              obtain ⟨a1, a2, a3⟩ := ih _ _ _ e1 r1
              obtain ⟨b1, b2, b3⟩ := ihx _ _ e2 r2
              exact ⟨.cons a1 b1, by simp [PyData.canLayAll0, a2, b2], by simp only [PyData.depthAll]; omega⟩
            · cases e
          · cases e
    intro v x d e r
    cases v with
    | non => cases e; cases r; exact ⟨.non, by simp [PyData.canLay0], by simp [PyData.depth]⟩
    | bl b => cases e; cases r; exact ⟨.bl b, by simp [PyData.canLay0], by simp [PyData.depth]⟩
    | int i => cases e; cases r; exact ⟨.int i, by simp [PyData.canLay0], by simp [PyData.depth]⟩
    | str s => cases e; obtain ⟨rfl, o⟩ := r.str_inv; exact ⟨.str _, strOk_of o, by simp [PyData.depth]⟩
    | tup xs =>
      obtain ⟨a, vs, rfl, t, rl⟩ := r.tup_inv
      unfold toD at e
      cases q : mapO (toD h k) xs with
      | none => rw [q] at e; cases e
      | some ds =>
        rw [q] at e
        cases e
        obtain ⟨a1, a2, a3⟩ := list _ _ _ q rl
        exact ⟨.tup t a1, by simp [PyData.canLay0, a2], by simp only [PyData.depth]; omega⟩
    | ref q =>
      obtain rfl := r.ref_inv
      unfold toD at e
      have fin : ∀ xs, getL h q = some xs → (mapO (toD h k) xs).map PyData.list = some d → Dp K H (.ref (ρ q)) d ∧ d.canLay0 = true ∧ d.depth ≤ k + 1 := by
        intro xs g e
        obtain ⟨vs, t, rl⟩ := sim.getL g
        cases q : mapO (toD h k) xs with
        | none => rw [q] at e; cases e
        | some ds =>
          rw [q] at e
          cases e
          obtain ⟨a1, a2, a3⟩ := list _ _ _ q rl
          exact ⟨.lst t a1, by simp [PyData.canLay0, a2], by simp only [PyData.depth]; omega⟩
      split at e
      · rename_i xs g; exact fin xs (by unfold getL; rw [g]) e
      · rename_i xs g; exact fin xs (by unfold getL; rw [g]) e
      · cases e
theorem toDs_ok {K : PySem.W.Frag} {ρ : Nat → Addr} {h : Hq} {H : Hp} (sim : Sim K cA ρ h H) {k : Nat} : ∀ {xs : List PV} {vs : List V} {ds : List PyData}, mapO (toD h k) xs = some ds → RepL K ρ h.n H xs vs → DpAll K H vs ds ∧ PyData.canLayAll0 ds = true ∧ PyData.depthAll ds ≤ k := by
  intro xs
  induction xs with
  | nil => intro vs ds e r; cases e; cases r; exact ⟨.nil, by simp [PyData.canLayAll0], by simp [PyData.depthAll]⟩
  | cons y xs ihx =>
    intro vs ds e r
    cases r with
    | cons r1 r2 =>
      unfold mapO at e
      split at e
      · rename_i d1 e1
        split at e
        · rename_i ds1 e2
          cases e
          obtain ⟨a1, a2, a3⟩ := toD_ok sim _ _ _ _ e1 r1
          obtain ⟨b1, b2, b3⟩ := ihx e2 r2
          exact ⟨.cons a1 b1, by simp [PyData.canLayAll0, a2, b2], by simp only [PyData.depthAll]; omega⟩
        · cases e
      · cases e
theorem shaped_of {d : PyData} (a : d.canLay0 = true) (b : d.depth ≤ 64) : SeqAt.shaped d = true := by
  unfold SeqAt.shaped; rw [a, decide_eq_true b]; rfl
theorem ofB_wp {h : Hq} {o : Option Bool} {P : PV → Hq → Prop} {E : Nat → Hq → Prop} (q : (ofB h o).wp P E) : ∃ b, o = some b ∧ P (.bl b) h := by
  cases o with
  | none => exact q.elim
  | some b => exact ⟨b, rfl, q⟩
theorem eqS_inv {h : Hq} {v w : PV} {b : Bool} (e : eqS h v w = some b) : ∃ d1 d2, toD h 64 v = some d1 ∧ toD h 64 w = some d2 ∧ b = PyData.eqv d1 d2 := by
  unfold eqS at e
  split at e
  · rename_i d1 e1
    split at e
    · rename_i d2 e2; cases e; exact ⟨d1, d2, e1, e2, rfl⟩
    · cases e
  · cases e
theorem op_eqS (hu : X.A.units + 64 < cLine) : OpR X (compareOp .Eq) (L2f X.K cA (cmpS .eq)) := by
  intro pins s σ H x y v u Q I rx ry hh
  obtain ⟨ρ, h, a, b, E, sim, ra, rb, hw⟩ := hh
  obtain ⟨c, e, hw⟩ := ofB_wp hw
  obtain ⟨d1, d2, e1, e2, rfl⟩ := eqS_inv e
  obtain ⟨p1, p2, p3⟩ := toD_ok sim _ _ _ _ e1 ra
  obtain ⟨q1, q2, q3⟩ := toD_ok sim _ _ _ _ e2 rb
  exact op_eqD hu pins s σ H _ _ v u Q I rx ry ⟨d1, d2, p1, q1, shaped_of p2 p3, shaped_of q2 q3, PostV.now hw sim (.bl _)⟩
theorem op_neS (hu : X.A.units + 64 < cLine) : OpR X (compareOp .NotEq) (L2f X.K cA (cmpS .ne)) := by
  intro pins s σ H x y v u Q I rx ry hh
  obtain ⟨ρ, h, a, b, E, sim, ra, rb, hw⟩ := hh
  obtain ⟨c, e, hw⟩ := ofB_wp hw
  cases e3 : eqS h a b with
  | none => rw [e3] at e; cases e
  | some c' =>
    rw [e3] at e
    cases e
    obtain ⟨d1, d2, e1, e2, rfl⟩ := eqS_inv e3
    obtain ⟨p1, p2, p3⟩ := toD_ok sim _ _ _ _ e1 ra
    obtain ⟨q1, q2, q3⟩ := toD_ok sim _ _ _ _ e2 rb
    exact op_neD hu pins s σ H _ _ v u Q I rx ry ⟨d1, d2, p1, q1, shaped_of p2 p3, shaped_of q2 q3, PostV.now hw sim (.bl _)⟩
end
end MP

namespace MP
open PySem PySem.Spec PyProof.Rows L2
section
variable {K : PySem.W.Frag} {cA : Nat → Addr} {ρ : Nat → Addr} {h : Hq} {H : Hp} {n : Nat}
theorem toS_beq (s t : List Nat) : (toS s == toS t) = (s == t) := by
  by_cases e : s = t
  · subst e; simp
  · rw [beq_eq_false_iff_ne.mpr e, beq_eq_false_iff_ne.mpr fun q => e (toS_inj q)]
theorem eqV_of {a b : PV} {x y : V} (ra : Rep K ρ n H a x) (rb : Rep K ρ n H b y) (fa : flat a = true) (fb : flat b = true) : eqV x y = eqF a b := by
  cases a <;> cases b <;> first | (cases fa; done) | (cases fb; done) | skip
  all_goals (cases ra; cases rb; first | rfl | exact toS_beq _ _)
theorem flatV_of {a : PV} {x : V} (ra : Rep K ρ n H a x) (fa : flat a = true) : flatV x = true := by
  cases a <;> first | (cases fa; done) | (cases ra; rfl)
theorem flats_of : ∀ {xs : List PV} {vs : List V}, RepL K ρ n H xs vs → xs.all flat = true → vs.all flatV = true
  | [], _, r, _ => by cases r; rfl
  | x :: xs, _, r, f => by
    cases r with
    | cons a b =>
      rw [List.all_cons, Bool.and_eq_true] at f
      rw [List.all_cons, flatV_of a f.1, flats_of b f.2]; rfl
theorem inV_of {a : PV} {x : V} (ra : Rep K ρ n H a x) (fa : flat a = true) : ∀ {xs : List PV} {vs : List V}, RepL K ρ n H xs vs → xs.all flat = true → inV x vs = xs.any fun y => eqF y a
  | [], _, r, _ => by cases r; rfl
  | y :: xs, _, r, f => by
    cases r with
    | cons r1 r2 =>
      rw [List.all_cons, Bool.and_eq_true] at f
      show (eqV _ x || inV x _) = _
      rw [List.any_cons, eqV_of r1 ra f.1 fa, inV_of ra fa r2 f.2]
theorem isKey_rep {a : PV} {x : V} (ra : Rep K ρ n H a x) (f : isKey a = true) : ∃ k, KeyR a k ∧ x = kV k := by
  cases a <;> first | (cases f; done) | skip
  · rename_i i; cases ra; exact ⟨.inl i, .int i, rfl⟩
  · rename_i s; obtain ⟨rfl, o⟩ := ra.str_inv; exact ⟨.inr (toS s), .str o, rfl⟩
theorem keyEq_of {a b : PV} {k l : Key} (ra : KeyR a k) (rb : KeyR b l) : keyEq a b = decide (k = l) := by
  cases ra <;> cases rb
  · rename_i i j
    by_cases e : i = j
    · subst e; simp [keyEq]
    · rw [decide_eq_false fun q => e (Sum.inl.inj q)]; exact beq_eq_false_iff_ne.mpr e
  · rw [decide_eq_false fun q => nomatch q]; rfl
  · rw [decide_eq_false fun q => nomatch q]; rfl
  · rename_i s _ t _
    by_cases e : s = t
    · subst e; simp [keyEq]
    · rw [decide_eq_false fun q => e (toS_inj (Sum.inr.inj q))]; exact beq_eq_false_iff_ne.mpr e
theorem dGet_of {b : PV} {l : Key} (rb : KeyR b l) : ∀ {kvs : List (PV × PV)} {kw : List (Key × V)}, RepK K ρ n H kvs kw → (∀ v, dGet kvs b = some v → ∃ w, valV kw l = some w ∧ Rep K ρ n H v w) ∧ (dGet kvs b = none → valV kw l = none)
  | [], _, .nil => ⟨fun v e => (by cases e), fun _ => rfl⟩
  | p :: kvs, _, .cons (b := q) r t => by
    have ih := dGet_of rb t
    have ke := keyEq_of r.1 rb
    by_cases e : q.1 = l
    · rw [decide_eq_true e] at ke
      have e1 : dGet (p :: kvs) b = some p.2 := by unfold dGet; rw [List.find?_cons, ke]; rfl
      rw [e1, valV_pos e]
      exact ⟨fun v z => by cases z; exact ⟨_, rfl, r.2⟩, fun z => by cases z⟩
    · rw [decide_eq_false e] at ke
      have e1 : dGet (p :: kvs) b = dGet kvs b := by unfold dGet; rw [List.find?_cons, ke]
      rw [e1, valV_neg e]
      exact ih
theorem dGet_some {b : PV} {l : Key} (rb : KeyR b l) {kvs : List (PV × PV)} {kw : List (Key × V)} (r : RepK K ρ n H kvs kw) : (valV kw l).isSome = (dGet kvs b).isSome := by
  have g := dGet_of rb r
  cases e : dGet kvs b with
  | none => rw [g.2 e] <;> rfl
  | some v => obtain ⟨w, e2, _⟩ := g.1 v e; rw [e2] <;> rfl
theorem at_of {α : Type} (xs : List α) (i : Int) {v : α} (e : at' xs i = some v) : atI xs i = some v := by
  unfold at' at e
  unfold atI ixN
  by_cases h0 : 0 ≤ i
  · rw [if_pos h0] at e
    rw [if_pos h0]
    have hl := (List.getElem?_eq_some_iff.mp e).1
    rw [if_pos (by omega)]
    exact e
  · rw [if_neg h0] at e
    rw [if_neg h0]
    by_cases h1 : -(xs.length : Int) ≤ i
    · rw [if_pos h1] at e; rw [if_pos h1]; exact e
    · rw [if_neg h1] at e; cases e
theorem at_rep {xs : List PV} {vs : List V} (r : RepL K ρ n H xs vs) {i : Int} {x : PV} (e : at' xs i = some x) : ∃ v, atI vs i = some v ∧ Rep K ρ n H x v := by
  unfold at' at e
  by_cases h0 : 0 ≤ i
  · rw [if_pos h0] at e
    obtain ⟨v, e1, r1⟩ := r.get e
    exact ⟨v, at_of _ _ (by unfold at'; rw [if_pos h0]; exact e1), r1⟩
  · rw [if_neg h0] at e
    by_cases h1 : -(xs.length : Int) ≤ i
    · rw [if_pos h1] at e
      obtain ⟨v, e1, r1⟩ := r.get e
      refine ⟨v, at_of _ _ ?_, r1⟩
      unfold at'
      rw [if_neg h0, if_pos (by rw [← r.length]; exact h1), ← r.length]
      exact e1
    · rw [if_neg h1] at e; cases e
theorem at_str {s : List Nat} {i : Int} {c : Nat} (e : at' s i = some c) : c ∈ s := by
  unfold at' at e
  split at e
  · exact List.mem_of_getElem? e
  · split at e
    · exact List.mem_of_getElem? e
    · cases e
theorem ofV_wp {o : Option PV} {P : PV → Hq → Prop} {E : Nat → Hq → Prop} (q : (ofV h o).wp P E) : ∃ b, o = some b ∧ P b h := by
  cases o with
  | none => exact q.elim
  | some b => exact ⟨b, rfl, q⟩
end
section
variable {X : Cx} {cA : Nat → Addr}
theorem ltS_lt : ∀ s t : List Nat, ltS s t = decide (s < t)
  | [], [] => by simp [ltS]
  | [], _ :: _ => by simp [ltS]
  | _ :: _, [] => by simp [ltS]
  | a :: x, b :: y => by
    unfold ltS
    rw [ltS_lt x y]
    by_cases h1 : a < b
    · rw [if_pos h1]; symm; rw [decide_eq_true_iff]; exact List.cons_lt_cons_iff.mpr (.inl h1)
    · rw [if_neg h1]
      by_cases h2 : a = b
      · subst h2; rw [if_pos rfl]
        by_cases h3 : x < y
        · rw [decide_eq_true h3]; symm; rw [decide_eq_true_iff]; exact List.cons_lt_cons_iff.mpr (.inr ⟨rfl, h3⟩)
        · rw [decide_eq_false h3]; symm; rw [decide_eq_false_iff_not]; intro q; rcases List.cons_lt_cons_iff.mp q with q | q
          · exact h1 q
          · exact h3 q.2
      · rw [if_neg h2]; symm; rw [decide_eq_false_iff_not]; intro q; rcases List.cons_lt_cons_iff.mp q with q | q
        · exact h1 q
        · exact h2 q.1
theorem op_ltS : OpR X (compareOp .Lt) (L2f X.K cA (cmpS .lt)) := by
  intro pins s σ H x y v u Q I rx ry hh
  obtain ⟨ρ, h, a, b, E, sim, ra, rb, hw⟩ := hh
  cases a <;> cases b <;> try exact hw.elim
  · rename_i i j
    obtain rfl := ra.int_inv
    obtain rfl := rb.int_inv
    exact op_lt pins s σ H _ _ v u Q I rx ry ⟨i, j, rfl, rfl, PostV.now hw sim (.bl _)⟩
  · rename_i i j
    obtain ⟨rfl, oi⟩ := ra.str_inv
    obtain ⟨rfl, oj⟩ := rb.str_inv
    refine op_lt_str pins s σ H _ _ v u Q I rx ry ⟨_, _, rfl, rfl, ?_⟩
    have := PostV.now hw sim (.bl _)
    rw [ltS_lt] at this
    simpa [toS] using this
theorem op_leS : OpR X (compareOp .LtE) (L2f X.K cA (cmpS .le)) := by
  intro pins s σ H x y v u Q I rx ry hh
  obtain ⟨ρ, h, a, b, E, sim, ra, rb, hw⟩ := hh
  cases a <;> cases b <;> try exact hw.elim
  rename_i i j
  obtain rfl := ra.int_inv
  obtain rfl := rb.int_inv
  exact op_le pins s σ H _ _ v u Q I rx ry ⟨i, j, rfl, rfl, PostV.now hw sim (.bl _)⟩
theorem op_gtS : OpR X (compareOp .Gt) (L2f X.K cA (cmpS .gt)) := by
  intro pins s σ H x y v u Q I rx ry hh
  obtain ⟨ρ, h, a, b, E, sim, ra, rb, hw⟩ := hh
  cases a <;> cases b <;> try exact hw.elim
  rename_i i j
  obtain rfl := ra.int_inv
  obtain rfl := rb.int_inv
  exact op_gt pins s σ H _ _ v u Q I rx ry ⟨i, j, rfl, rfl, PostV.now hw sim (.bl _)⟩
theorem op_geS : OpR X (compareOp .GtE) (L2f X.K cA (cmpS .ge)) := by
  intro pins s σ H x y v u Q I rx ry hh
  obtain ⟨ρ, h, a, b, E, sim, ra, rb, hw⟩ := hh
  cases a <;> cases b <;> try exact hw.elim
  rename_i i j
  obtain rfl := ra.int_inv
  obtain rfl := rb.int_inv
  exact op_ge pins s σ H _ _ v u Q I rx ry ⟨i, j, rfl, rfl, PostV.now hw sim (.bl _)⟩
/-- in, by values -/
theorem in_core (hu : X.A.units + 65 < cLine) {pins : List (Addr × Obj)} {s : Shared} {σ : L2.St} {H : Hp} {x y : V} {v u : Value} {Q : VK} {ρ : Nat → Addr} {h : Hq} {a b : PV} {c : Bool} (I : Inv X pins σ H s) (rx : RelV x v) (ry : RelV y u)
    (sim : Sim X.K cA ρ h H) (ra : Rep X.K ρ h.n H a x) (rb : Rep X.K ρ h.n H b y) (e : inS h a b = some c) :
    (Q (.bl c) H → wpAny (model X.prog X.w) X.A (compareOp .In v u) (EP X pins σ Q) X.xe s) ∧ (Q (.bl (!c)) H → wpAny (model X.prog X.w) X.A (compareOp .NotIn v u) (EP X pins σ Q) X.xe s) := by
  unfold inS at e
  cases b with
  | str t =>
    obtain ⟨rfl, ot⟩ := rb.str_inv
    cases a with
    | str z =>
      match z, e, ra with
      | [d], e, ra =>
        obtain ⟨rfl, oz⟩ := ra.str_inv
        cases e
        exact ⟨fun q => op_in_sign pins s σ H _ _ v u Q I rx ry ⟨d, _, rfl, rfl, by simpa [toS] using q⟩, fun q => op_notIn_sign pins s σ H _ _ v u Q I rx ry ⟨d, _, rfl, rfl, by simpa [toS] using q⟩⟩
    | _ => cases e
  | tup ys =>
    obtain ⟨p, vs, rfl, tp, rp⟩ := rb.tup_inv
    simp only at e
    by_cases f : (flat a && ys.all flat) = true
    · rw [if_pos f] at e
      rw [Bool.and_eq_true] at f
      cases e
      have f1 := flatV_of ra f.1
      have f2 := flats_of rp f.2
      have f3 := inV_of ra f.1 rp f.2
      refine ⟨fun q => op_in_seq pins s σ H _ _ v u Q I rx ry ⟨p, vs, rfl, .inr tp, f1, f2, ?_⟩, fun q => op_notIn_seq pins s σ H _ _ v u Q I rx ry ⟨p, vs, rfl, .inr tp, f1, f2, ?_⟩⟩
      · rw [f3]; exact q
      · rw [f3]; exact q
    · rw [if_neg f] at e; cases e
  | ref r =>
    obtain rfl := rb.ref_inv
    simp only at e
    split at e
    · rename_i ys g
      split at e
      · rename_i d e1
        split at e
        · rename_i ds e2
          cases e
          obtain ⟨vs, t, rl⟩ := sim.lst g
          obtain ⟨p1, p2, p3⟩ := toD_ok sim _ _ _ _ e1 ra
          obtain ⟨q1, q2, q3⟩ := toDs_ok sim e2 rl
          have sh : SeqAt.shaped (.list ds) = true := shaped_of (by simpa [PyData.canLay0] using q2) (by simp only [PyData.depth]; omega)
          exact ⟨fun q => op_inD hu pins s σ H _ _ v u Q I rx ry ⟨d, ds, p1, .lst (SqL.of t) q1, shaped_of p2 p3, sh, q⟩, fun q => op_notInD hu pins s σ H _ _ v u Q I rx ry ⟨d, ds, p1, .lst (SqL.of t) q1, shaped_of p2 p3, sh, q⟩⟩
        · cases e
      · cases e
    · rename_i kvs g
      by_cases f : isKey a = true
      · rw [if_pos f] at e
        cases e
        obtain ⟨kw, t, rk⟩ := sim.obj r _ g
        obtain ⟨k, kr, rfl⟩ := isKey_rep ra f
        have es := dGet_some kr rk
        cases ry
        refine ⟨fun q => d_in (by omega) I (DGet.k t) rx fun s' I' => ⟨.bl _, H, I', rfl, by rw [es]; exact q⟩, fun q => d_notIn (by omega) I (DGet.k t) rx fun s' I' => ⟨.bl _, H, I', rfl, by rw [es]; exact q⟩⟩
      · rw [if_neg f] at e; cases e
    · cases e
  | _ => cases e
theorem op_inS (hu : X.A.units + 65 < cLine) : OpR X (compareOp .In) (L2f X.K cA (cmpS .isin)) := by
  intro pins s σ H x y v u Q I rx ry hh
  obtain ⟨ρ, h, a, b, E, sim, ra, rb, hw⟩ := hh
  obtain ⟨c, e, hw⟩ := ofB_wp hw
  exact (in_core hu I rx ry sim ra rb e).1 (PostV.now hw sim (.bl _))
theorem op_notinS (hu : X.A.units + 65 < cLine) : OpR X (compareOp .NotIn) (L2f X.K cA (cmpS .notin)) := by
  intro pins s σ H x y v u Q I rx ry hh
  obtain ⟨ρ, h, a, b, E, sim, ra, rb, hw⟩ := hh
  obtain ⟨c, e, hw⟩ := ofB_wp hw
  cases e3 : inS h a b with
  | none => rw [e3] at e; cases e
  | some c' =>
    rw [e3] at e
    cases e
    exact (in_core hu I rx ry sim ra rb e3).2 (PostV.now hw sim (.bl _))
/-- a subscript -/
theorem ix_S (hu : X.A.units + 65 < cLine) : IxR X (L2f X.K cA idxS) := by
  intro value slice pins s σ H x y v u Q I rx ry hh hs
  obtain ⟨ρ, h, a, b, E, sim, ra, rb, hw⟩ := hh
  cases a with
  | tup xs =>
    obtain ⟨p, vs, rfl, tp, rp⟩ := ra.tup_inv
    cases b <;> try exact hw.elim
    rename_i i
    obtain rfl := rb.int_inv
    obtain ⟨z, e, hw⟩ := ofV_wp hw
    obtain ⟨w, e1, r1⟩ := at_rep rp e
    exact ix_tup value slice pins s σ H _ _ v u Q I rx ry ⟨p, vs, i, w, rfl, rfl, tp, e1, PostV.now hw sim r1⟩ hs
  | str z =>
    obtain ⟨rfl, oz⟩ := ra.str_inv
    cases b <;> try exact hw.elim
    rename_i i
    obtain rfl := rb.int_inv
    obtain ⟨w, e, hw⟩ := ofV_wp hw
    cases e1 : at' z i with
    | none => rw [e1] at e; cases e
    | some c =>
      rw [e1] at e
      cases e
      refine ix_str value slice pins s σ H _ _ v u Q I rx ry ⟨_, i, c, rfl, rfl, by rw [toS_len]; exact oz.1, at_of _ _ (by simpa [toS] using e1), ?_⟩ hs
      have q := PostV.now hw sim (.str (StrOk.one (oz.2 c (at_str e1))))
      simpa [toS] using q
  | ref r =>
    obtain rfl := ra.ref_inv
    simp only [idxS] at hw
    revert hw
    have fin : ∀ xs, getL h r = some xs → (match b with | .int i => ofV h (at' xs i) | _ => .fail).wp (PostV X.K cA ρ h H Q) E → wpAny (model X.prog X.w) X.A (subscriptTail value slice v u) (EP X pins σ Q) X.xe s := by
      intro xs g hw
      obtain ⟨vs, t, rl⟩ := sim.getL g
      cases b <;> try exact hw.elim
      rename_i i
      obtain rfl := rb.int_inv
      obtain ⟨z, e, hw⟩ := ofV_wp hw
      obtain ⟨w, e1, r1⟩ := at_rep rl e
      exact ix_list value slice pins s σ H _ _ v u Q I rx ry ⟨_, vs, i, w, rfl, rfl, t, e1, PostV.now hw sim r1⟩ hs
    intro hw
    split at hw
    · rename_i xs g; exact fin xs (by unfold getL; rw [g]) hw
    · rename_i xs g; exact fin xs (by unfold getL; rw [g]) hw
    · rename_i kvs g
      by_cases f : isKey b = true
      · rw [if_pos f] at hw
        obtain ⟨z, e, hw⟩ := ofV_wp hw
        obtain ⟨kw, t, rk⟩ := sim.obj r _ g
        obtain ⟨k, kr, rfl⟩ := isKey_rep rb f
        obtain ⟨w, e1, r1⟩ := (dGet_of kr rk).1 z e
        cases rx
        have dg : DGet H (ρ r) (kV k) (some w) := by rw [← e1]; exact DGet.k t
        exact tail_any (dict_typeIs I dg) PySem.F.slot_dict_getitem.lookup (d_getItem (by omega) I dg ry fun w' s3 I3 rw' => ⟨w, H, I3, rw', PostV.now hw sim r1⟩) hs
      · rw [if_neg f] at hw; exact hw.elim
    · exact hw.elim
  | _ => exact hw.elim
theorem ixS_eq (n d : Nat) (o : Option Int) : ixS n d o = HT.sIx n d o := by
  cases o <;> rfl
theorem cut_rep {K : PySem.W.Frag} {ρ : Nat → Addr} {n : Nat} {H : Hp} {xs : List PV} {vs : List V} (r : RepL K ρ n H xs vs) (lo hi : Option Int) : RepL K ρ n H (cut xs lo hi) (cutV vs lo hi) := by
  unfold cut cutV
  rw [r.length, ixS_eq, ixS_eq]
  exact (r.drop _).take _
theorem StrOk.sub {s t : List Nat} (h : StrOk s) (hl : t.length ≤ s.length) (hm : ∀ c ∈ t, c ∈ s) : StrOk t := ⟨Nat.le_trans hl h.1, fun c hc => h.2 c (hm c hc)⟩
theorem cut_ok {s : List Nat} (h : StrOk s) (lo hi : Option Int) : StrOk (cut s lo hi) := by
  refine h.sub ?_ fun c hc => List.mem_of_mem_drop (List.mem_of_mem_take hc)
  unfold cut
  rw [List.length_take, List.length_drop]
  omega
/-- a slice -/
theorem sl_S : SlR X (fun x lo hi H Q => ∃ ρ h v E, Sim X.K cA ρ h H ∧ Rep X.K ρ h.n H v x ∧ (sliceS h v lo hi).wp (PostV X.K cA ρ h H Q) E) := by
  intro pins s σ H x v vl vu lo hi sl Q I rx hsl pl pu hh
  obtain ⟨ρ, h, a, E, sim, ra, hw⟩ := hh
  cases a with
  | tup xs =>
    obtain ⟨p, vs, rfl, tp, rp⟩ := ra.tup_inv
    refine sl_tupA pins s σ H _ v vl vu lo hi sl Q I rx hsl pl pu ⟨p, vs, rfl, tp, fun e => ?_, fun e r hr => PostV.tup hw sim (cut_rep rp lo hi) hr⟩
    have : cut xs lo hi = xs := by
      unfold cut
      rw [ixS_eq, ixS_eq, rp.length, e.1, e.2, ← rp.length]
      simp
    have hw : PostV X.K cA ρ h H Q (.tup (cut xs lo hi)) h := hw
    rw [this] at hw
    exact PostV.now hw sim (.tup tp rp)
  | str z =>
    obtain ⟨rfl, oz⟩ := ra.str_inv
    refine sl_str pins s σ H _ v vl vu lo hi sl Q I rx hsl pl pu ⟨_, rfl, by rw [toS_len]; exact oz.1, ?_⟩
    have q := PostV.now hw sim (.str (cut_ok oz lo hi))
    have e : cutS (toS z) lo hi = toS (cut z lo hi) := by
      unfold cutS cut
      rw [ixS_eq, ixS_eq, toS_len]
    rw [e]; exact q
  | ref r =>
    obtain rfl := ra.ref_inv
    simp only [sliceS] at hw
    split at hw
    · rename_i xs g
      obtain ⟨vs, t, rl⟩ := sim.getL g
      exact sl_list pins s σ H _ v vl vu lo hi sl Q I rx hsl pl pu ⟨_, vs, rfl, t, fun p hp => PostV.lst hw sim (cut_rep rl lo hi) hp⟩
    · exact hw.elim
  | _ => exact hw.elim
end
end MP

namespace MP
open PySem PySem.Spec PyProof.Rows L2
section
open PySem.StrLaws PySem.Builtin PySem.Builtin.Str
theorem occ_stay (s sub : Str) (hi : Nat) : ∀ (l : List Nat) (st : Array Nat × Nat), 1 ≤ st.fst.size → (forIn l st (occBody s sub hi 1)).run.fst = st.fst
  | [], st, h => rfl
  | a :: l, st, h => by
    rw [List.forIn_cons]
    unfold occBody
    rw [if_neg (fun q => by have := q.1.1.1; omega)]
    exact occ_stay s sub hi l _ h
theorem occ_hit (s sub : Str) (hi i : Nat) (hm : i + sub.length ≤ hi ∧ subAt s sub i = true) : ∀ (p q : List Nat) (free : Nat), (∀ j ∈ p, free ≤ j ∧ ¬ (j + sub.length ≤ hi ∧ subAt s sub j = true)) → free ≤ i →
    (forIn (p ++ i :: q) ((#[] : Array Nat), free) (occBody s sub hi 1)).run.fst = #[i]
  | [], q, free, _, hf => by
    rw [List.nil_append, List.forIn_cons]
    unfold occBody
    rw [if_pos ⟨⟨⟨by simp, hf⟩, hm.1⟩, hm.2⟩]
    exact occ_stay s sub hi q _ (by simp)
  | a :: p, q, free, hp, hf => by
    rw [List.cons_append, List.forIn_cons]
    unfold occBody
    have ha := hp a (List.mem_cons_self ..)
    rw [if_neg (fun z => ha.2 ⟨z.1.2, z.2⟩)]
    exact occ_hit s sub hi i hm p q free (fun j hj => hp j (List.mem_cons_of_mem _ hj)) hf
theorem occ_one (x : Str) (c i : Nat) (h : x.cps.toList[i]? = some c) (hn : ∀ j, j < i → x.cps.toList[j]? ≠ some c) : occurrences x ⟨#[c]⟩ 0 x.length 1 = [i] := by
  rw [occ_eq]
  have hlt : i < x.length := by
    obtain ⟨hlt, _⟩ := List.getElem?_eq_some_iff.mp h
    simpa [Str.length] using hlt
  have e : List.range' 0 (x.length + 1 - 0) = List.range' 0 i ++ i :: List.range' (i + 1) (x.length - i) := by
    have e1 : x.length + 1 - 0 = i + (1 + (x.length - i)) := by omega
    rw [e1, ← List.range'_append_1, Nat.zero_add, ← List.range'_append_1]
    rfl
  rw [e, occ_hit x ⟨#[c]⟩ x.length i ((subAt_one x c i).mpr h) _ _ 0 (fun j hj => ⟨Nat.zero_le _, fun q => hn j (by simpa using (List.mem_range'_1.mp hj).2) ((subAt_one x c j).mp q)⟩) (Nat.zero_le _)]
end
theorem idxOf_spec {α : Type} {p : α → Bool} : ∀ {l : List α} {i : Nat}, idxOf p l = some i → ∃ x, l[i]? = some x ∧ p x = true ∧ ∀ j y, j < i → l[j]? = some y → p y = false
  | [], i, h => by cases h
  | a :: l, i, h => by
    unfold idxOf at h
    by_cases e : p a = true
    · rw [if_pos e] at h; cases h; exact ⟨a, rfl, e, fun j y hj => absurd hj (Nat.not_lt_zero _)⟩
    · rw [if_neg e] at h
      cases q : idxOf p l with
      | none => rw [q] at h; cases h
      | some k =>
        rw [q] at h; cases h
        obtain ⟨x, h1, h2, h3⟩ := idxOf_spec q
        refine ⟨x, h1, h2, fun j y hj hy => ?_⟩
        cases j with
        | zero => cases hy; simpa using e
        | succ j => exact h3 j y (by have hj : j + 1 < k + 1 := hj; omega) hy

/-! ### sorting -/
theorem insI_perm (x : Int) : ∀ l, (insI x l).Perm (x :: l)
  | [] => List.Perm.refl _
  | y :: r => by
    unfold insI
    split
    · exact List.Perm.refl _
    · exact ((insI_perm x r).cons y).trans (List.Perm.swap x y r)
theorem sortI_perm' : ∀ l, (sortI l).Perm l
  | [] => List.Perm.refl _
  | x :: r => (insI_perm x _).trans ((sortI_perm' r).cons x)
theorem insI_pw (x : Int) : ∀ l, l.Pairwise (· ≤ ·) → (insI x l).Pairwise (· ≤ ·)
  | [], _ => by simp [insI]
  | y :: r, h => by
    unfold insI
    split
    · rename_i hle
      refine List.pairwise_cons.mpr ⟨fun z hz => ?_, h⟩
      rcases List.mem_cons.mp hz with rfl | hz
      · exact hle
      · exact Int.le_trans hle ((List.pairwise_cons.mp h).1 z hz)
    · rename_i hle
      refine List.pairwise_cons.mpr ⟨fun z hz => ?_, insI_pw x r (List.pairwise_cons.mp h).2⟩
      rcases List.mem_cons.mp ((insI_perm x r).mem_iff.mp hz) with rfl | hz
      · omega
      · exact (List.pairwise_cons.mp h).1 z hz
theorem sortI_pw : ∀ l, (sortI l).Pairwise (· ≤ ·)
  | [] => .nil
  | x :: r => insI_pw x _ (sortI_pw r)
theorem ltS_cps : ∀ s t : List Nat, ltCps s t = ltS s t
  | [], [] => rfl
  | [], _ :: _ => rfl
  | _ :: _, [] => rfl
  | a :: x, b :: y => by
    unfold ltCps ltS
    rw [ltS_cps x y]
    by_cases h1 : a < b
    · rw [if_pos h1, decide_eq_true h1]; rfl
    · rw [if_neg h1, decide_eq_false h1]
      by_cases h2 : a = b
      · rw [if_pos h2]; simp [h2]
      · rw [if_neg h2]; simp [h2]
theorem ltS_irrefl : ∀ s, ltS s s = false
  | [] => rfl
  | a :: x => by unfold ltS; rw [if_neg (Nat.lt_irrefl _), if_pos rfl, ltS_irrefl x]
theorem ltS_trans : ∀ {s t u}, ltS s t = true → ltS t u = true → ltS s u = true := by
  intro s t u h1 h2
  rw [ltS_lt, decide_eq_true_iff] at *
  exact List.lt_trans h1 h2
theorem leS_antisymm {s t : List Nat} (h1 : ltS s t = false) (h2 : ltS t s = false) : s = t := by
  rw [ltS_lt, decide_eq_false_iff_not] at *
  exact List.le_antisymm (List.not_lt.mp h2) (List.not_lt.mp h1)
theorem leS_trans {s t u : List Nat} (h1 : ltS t s = false) (h2 : ltS u t = false) : ltS u s = false := by
  rw [ltS_lt, decide_eq_false_iff_not] at *
  exact List.not_lt.mpr (List.le_trans (List.not_lt.mp h1) (List.not_lt.mp h2))
theorem insS_perm (x : List Nat) : ∀ l, (insS x l).Perm (x :: l)
  | [] => List.Perm.refl _
  | y :: r => by
    unfold insS
    split
    · exact ((insS_perm x r).cons y).trans (List.Perm.swap x y r)
    · exact List.Perm.refl _
theorem sortS_perm : ∀ l, (sortS l).Perm l
  | [] => List.Perm.refl _
  | x :: r => (insS_perm x _).trans ((sortS_perm r).cons x)
abbrev leS (a b : List Nat) : Prop := ltS b a = false
theorem insS_pw (x : List Nat) : ∀ l, l.Pairwise leS → (insS x l).Pairwise leS
  | [], _ => by simp [insS]
  | y :: r, h => by
    unfold insS
    split
    · rename_i hlt
      refine List.pairwise_cons.mpr ⟨fun z hz => ?_, insS_pw x r (List.pairwise_cons.mp h).2⟩
      rcases List.mem_cons.mp ((insS_perm x r).mem_iff.mp hz) with rfl | hz
      · show ltS z y = false
        cases q : ltS z y with
        | false => rfl
        | true => have := ltS_trans hlt q; rw [ltS_irrefl] at this; cases this
      · exact (List.pairwise_cons.mp h).1 z hz
    · rename_i hle
      have hle : leS x y := by simpa using hle
      refine List.pairwise_cons.mpr ⟨fun z hz => ?_, h⟩
      rcases List.mem_cons.mp hz with rfl | hz
      · exact hle
      · exact leS_trans hle ((List.pairwise_cons.mp h).1 z hz)
theorem sortS_pw : ∀ l, (sortS l).Pairwise leS
  | [] => .nil
  | x :: r => insS_pw x _ (sortS_pw r)
theorem pw_of_rising : ∀ (l : List Str) (p : Str), risingS p l = true → (p :: l).Pairwise (fun a b => leS a.cps.toList b.cps.toList)
  | [], p, _ => by simp
  | x :: r, p, h => by
    unfold risingS at h
    rw [Bool.and_eq_true] at h
    have ih := pw_of_rising r x h.2
    have h1 : leS p.cps.toList x.cps.toList := by
      have := h.1
      rw [ltS_cps] at this
      simpa using this
    refine List.pairwise_cons.mpr ⟨fun z hz => ?_, ih⟩
    rcases List.mem_cons.mp hz with rfl | hz
    · exact h1
    · exact leS_trans h1 ((List.pairwise_cons.mp ih).1 z hz)
theorem sortedS_uniq {ys : List Str} {ss : List (List Nat)} (hp : ys.Perm (ss.map toS)) (hs : sortedS ys = true) : ys = (sortS ss).map toS := by
  have pw : ys.Pairwise (fun a b => leS a.cps.toList b.cps.toList) := by
    cases ys with
    | nil => exact .nil
    | cons y r => exact pw_of_rising r y hs
  have pw2 : ((sortS ss).map toS).Pairwise (fun a b => leS a.cps.toList b.cps.toList) := by
    rw [List.pairwise_map]
    exact (sortS_pw ss).imp fun h => by simpa [toS] using h
  refine List.Perm.eq_of_pairwise (le := fun a b => leS a.cps.toList b.cps.toList) (fun a b _ _ h1 h2 => ?_) pw pw2 (hp.trans ((sortS_perm ss).map toS).symm)
  have : a.cps.toList = b.cps.toList := leS_antisymm h2 h1
  cases a; cases b
  simp at this
  rw [this]

section
variable {K : PySem.W.Frag} {cA : Nat → Addr} {ρ : Nat → Addr} {h : Hq} {H : Hp} {n : Nat}
theorem intsOf_ok : ∀ {xs : List PV} {is : List Int} {vs : List V}, intsOf xs = some is → RepL K ρ n H xs vs → vs = is.map V.int
  | [], _, _, e, r => by cases e; cases r; rfl
  | x :: xs, is, vs, e, r => by
    cases r with
    | cons a b =>
      cases x <;> first | (cases e; done) | skip
      rename_i i
      unfold intsOf at e
      cases q : intsOf xs with
      | none => rw [q] at e; cases e
      | some js => rw [q] at e; cases e; rw [intsOf_ok q b, a.int_inv]; rfl
theorem blsOf_ok : ∀ {xs : List PV} {is : List Bool} {vs : List V}, blsOf xs = some is → RepL K ρ n H xs vs → vs = is.map V.bl
  | [], _, _, e, r => by cases e; cases r; rfl
  | x :: xs, is, vs, e, r => by
    cases r with
    | cons a b =>
      cases x <;> first | (cases e; done) | skip
      rename_i i
      unfold blsOf at e
      cases q : blsOf xs with
      | none => rw [q] at e; cases e
      | some js => rw [q] at e; cases e; rw [blsOf_ok q b, a.bl_inv]; rfl
theorem strsOf_ok : ∀ {xs : List PV} {is : List (List Nat)} {vs : List V}, strsOf xs = some is → RepL K ρ n H xs vs → vs = (is.map toS).map V.str ∧ ∀ s ∈ is, StrOk s
  | [], _, _, e, r => by cases e; cases r; exact ⟨rfl, fun s hs => by cases hs⟩
  | x :: xs, is, vs, e, r => by
    cases r with
    | cons a b =>
      cases x <;> first | (cases e; done) | skip
      rename_i i
      unfold strsOf at e
      cases q : strsOf xs with
      | none => rw [q] at e; cases e
      | some js =>
        rw [q] at e; cases e
        obtain ⟨h1, h2⟩ := strsOf_ok q b
        obtain ⟨rfl, o⟩ := a.str_inv
        exact ⟨by rw [h1]; rfl, fun s hs => (List.mem_cons.mp hs).elim (fun e => e ▸ o) (h2 s)⟩
theorem seqOf_ok {v : PV} {x : V} {xs : List PV} (sim : Sim K cA ρ h H) (e : seqOf h v = some xs) (r : Rep K ρ h.n H v x) : ∃ a vs, x = .ref a ∧ (SqL K H a vs ∨ SqT K H a vs) ∧ RepL K ρ h.n H xs vs := by
  cases v <;> first | (cases e; done) | skip
  · cases e
    obtain ⟨a, vs, rfl, t, rl⟩ := r.tup_inv
    exact ⟨a, vs, rfl, .inr t, rl⟩
  · obtain rfl := r.ref_inv
    obtain ⟨vs, t, rl⟩ := sim.getL e
    exact ⟨_, vs, rfl, .inl t, rl⟩
theorem minL_spec : ∀ (l : List Int) (m : Int), minL m l ∈ m :: l ∧ ∀ y ∈ m :: l, minL m l ≤ y
  | [], m => ⟨by simp [minL], by simp [minL]⟩
  | x :: r, m => by
    unfold minL
    obtain ⟨h1, h2⟩ := minL_spec r (if x < m then x else m)
    refine ⟨?_, fun y hy => ?_⟩
    · rcases List.mem_cons.mp h1 with e | e
      · rw [e]; split <;> simp
      · exact List.mem_cons_of_mem _ (List.mem_cons_of_mem _ e)
    · have h3 := h2 _ (List.mem_cons_self ..)
      rcases List.mem_cons.mp hy with rfl | hy
      · split at h3 <;> (try split) <;> first | omega | (rename_i q1 q2; omega)
      · rcases List.mem_cons.mp hy with rfl | hy
        · split at h3 <;> (try split) <;> first | omega | (rename_i q1 q2; omega)
        · exact h2 y (List.mem_cons_of_mem _ hy)
theorem maxL_spec : ∀ (l : List Int) (m : Int), maxL m l ∈ m :: l ∧ ∀ y ∈ m :: l, y ≤ maxL m l
  | [], m => ⟨by simp [maxL], by simp [maxL]⟩
  | x :: r, m => by
    unfold maxL
    obtain ⟨h1, h2⟩ := maxL_spec r (if m < x then x else m)
    refine ⟨?_, fun y hy => ?_⟩
    · rcases List.mem_cons.mp h1 with e | e
      · rw [e]; split <;> simp
      · exact List.mem_cons_of_mem _ (List.mem_cons_of_mem _ e)
    · have h3 := h2 _ (List.mem_cons_self ..)
      rcases List.mem_cons.mp hy with rfl | hy
      · split at h3 <;> (try split) <;> first | omega | (rename_i q1 q2; omega)
      · rcases List.mem_cons.mp hy with rfl | hy
        · split at h3 <;> (try split) <;> first | omega | (rename_i q1 q2; omega)
        · exact h2 y (List.mem_cons_of_mem _ hy)
end
end MP

/-! loops by invariants, met where they stand in a goal -/
namespace MP.Z
/-- it gives something, and that is so -/
def retW {α : Type} (t : R0 α) (Q : α → Env0 → Drw → Prop) : Prop := match t with
  | .ret a env s => Q a env s
  | _ => False
def retF (t : RF) (Q : VV → Drw → Prop) : Prop := match t with
  | .ret v s => Q v s
  | _ => False
theorem retW_ret {α : Type} {a : α} {env : Env0} {s : Drw} {Q : α → Env0 → Drw → Prop} : retW (.ret a env s) Q = Q a env s := rfl
theorem retF_ret {v : VV} {s : Drw} {Q : VV → Drw → Prop} : retF (.ret v s) Q = Q v s := rfl
theorem retW_ite {α : Type} {c : Prop} [Decidable c] {a b : R0 α} {Q : α → Env0 → Drw → Prop} : retW (if c then a else b) Q = if c then retW a Q else retW b Q := by split <;> rfl
theorem retF_ite {c : Prop} [Decidable c] {a b : RF} {Q : VV → Drw → Prop} : retF (if c then a else b) Q = if c then retF a Q else retF b Q := by split <;> rfl
theorem retW_inv {α : Type} {t : R0 α} {Q : α → Env0 → Drw → Prop} (h : retW t Q) : ∃ a env s, t = .ret a env s ∧ Q a env s := by
  cases t with
  | ret a env s => exact ⟨a, env, s, rfl, h⟩
  | exc c s => exact h.elim
  | fail => exact h.elim
theorem retF_inv {t : RF} {Q : VV → Drw → Prop} (h : retF t Q) : ∃ v s, t = .ret v s ∧ Q v s := by
  cases t with
  | ret a s => exact ⟨a, s, rfl, h⟩
  | exc c s => exact h.elim
  | fail => exact h.elim
theorem retF_of {t : RF} {Q : VV → Drw → Prop} {v : VV} {s : Drw} (e : t = .ret v s) (h : Q v s) : retF t Q := by rw [e]; exact h
theorem retF_mono {t : RF} {Q Q' : VV → Drw → Prop} (h : retF t Q) (i : ∀ v s, Q v s → Q' v s) : retF t Q' := by
  obtain ⟨v, s, e, q⟩ := retF_inv h
  exact retF_of e (i v s q)
/-- a for: I of what is left, R of what a turn returns -/
theorem for_use {tg : Tg} {body : Env0 → Drw → RS} {xs : List VV} {env : Env0} {s : Drw} {T : RS} {G : Prop} (e : for0 tg body xs env s = T) (I : List VV → Env0 → Drw → Prop) (R : VV → Env0 → Drw → Prop)
    (h0 : I xs env s)
    (hs : ∀ (x : VV) (rest : List VV) (env : Env0) (s : Drw), I (x :: rest) env s → ∃ env1, asgV tg x env = some env1 ∧ retW (body env1 s) fun f env2 s2 => match f with | .ret v => R v env2 s2 | _ => I rest env2 s2)
    (hn : ∀ env' s', T = .ret .next env' s' → I [] env' s' → G) (hr : ∀ v env' s', T = .ret (.ret v) env' s' → R v env' s' → G) : G := by
  have go : ∀ (xs : List VV) (env : Env0) (s : Drw), I xs env s → (∃ env' s', for0 tg body xs env s = .ret .next env' s' ∧ I [] env' s') ∨ ∃ v env' s', for0 tg body xs env s = .ret (.ret v) env' s' ∧ R v env' s' := by
    intro xs
    induction xs with
    | nil => intro env s h; exact .inl ⟨env, s, rfl, h⟩
    | cons x rest ih =>
      intro env s h
      obtain ⟨env1, e1, hw⟩ := hs x rest env s h
      obtain ⟨f, env2, s2, e2, h2⟩ := retW_inv hw
      have e3 : for0 tg body (x :: rest) env s = (body env1 s).bind fun f env s => match f with
        | .next => for0 tg body rest env s
        | .cont => for0 tg body rest env s
        | .ret v => .ret (.ret v) env s := by
        show (match asgV tg x env with | none => R0.fail | some env1 => _) = _
        rw [e1]
        try rfl
      rw [e3, e2, R0.bind_ret]
      cases f with
      | next => exact ih env2 s2 h2
      | cont => exact ih env2 s2 h2
      | ret v => exact .inr ⟨v, env2, s2, rfl, h2⟩
  rcases go xs env s h0 with ⟨env', s', h1, h2⟩ | ⟨v, env', s', h1, h2⟩
  · exact hn env' s' (e.symm.trans h1) h2
  · exact hr v env' s' (e.symm.trans h1) h2
/-- how a turn ends that returns nothing -/
def goesOn (f : Fl0) : Prop := match f with | .ret _ => False | _ => True
theorem goesOn_n : goesOn .next = True := rfl
theorem goesOn_c : goesOn .cont = True := rfl
/-- .. that returns nothing -/
theorem for_inv {tg : Tg} {body : Env0 → Drw → RS} {xs : List VV} {env : Env0} {s : Drw} {T : RS} {G : Prop} (e : for0 tg body xs env s = T) (I : List VV → Env0 → Drw → Prop)
    (h0 : I xs env s)
    (hs : ∀ (x : VV) (rest : List VV) (env : Env0) (s : Drw), I (x :: rest) env s → ∃ env1, asgV tg x env = some env1 ∧ retW (body env1 s) fun f env2 s2 => goesOn f ∧ I rest env2 s2)
    (hn : ∀ env' s', T = .ret .next env' s' → I [] env' s' → G) : G :=
  for_use e I (fun _ _ _ => False) h0 (fun x rest env s h => by
    obtain ⟨env1, e1, hw⟩ := hs x rest env s h
    obtain ⟨f, env2, s2, e2, h2⟩ := retW_inv hw
    refine ⟨env1, e1, ?_⟩
    rw [e2, retW_ret]
    cases f with
    | next => exact h2.2
    | cont => exact h2.2
    | ret v => exact h2.1.elim) hn fun _ _ _ _ z => z.elim
/-- a while: I of a number that falls -/
theorem while_use {c : Env0 → Drw → R0 Bool} {body : Env0 → Drw → RS} {m : Nat} {env : Env0} {s : Drw} {T : RS} {G : Prop} (e : while0 c body m env s = T) (I : Nat → Env0 → Drw → Prop) (J : Env0 → Drw → Prop) (R : VV → Env0 → Drw → Prop) (n : Nat)
    (h0 : I n env s) (hm : n < m)
    (hs : ∀ (n : Nat) (env : Env0) (s : Drw), I n env s → retW (c env s) fun b env1 s1 => if b = true then retW (body env1 s1) (fun f env2 s2 => match f with | .ret v => R v env2 s2 | _ => ∃ n', n' < n ∧ I n' env2 s2) else J env1 s1)
    (hn : ∀ env' s', T = .ret .next env' s' → J env' s' → G) (hr : ∀ v env' s', T = .ret (.ret v) env' s' → R v env' s' → G) : G := by
  have go : ∀ (m n : Nat) (env : Env0) (s : Drw), I n env s → n < m → (∃ env' s', while0 c body m env s = .ret .next env' s' ∧ J env' s') ∨ ∃ v env' s', while0 c body m env s = .ret (.ret v) env' s' ∧ R v env' s' := by
    intro m
    induction m with
    | zero => intro n env s _ h; exact absurd h (Nat.not_lt_zero _)
    | succ m ih =>
      intro n env s h hm
      obtain ⟨b, env1, s1, e1, hb⟩ := retW_inv (hs n env s h)
      have e3 : while0 c body (m + 1) env s = (c env s).bind fun b env s => if b = true then
        (body env s).bind fun f env s => match f with
          | .next => while0 c body m env s
          | .cont => while0 c body m env s
          | .ret v => .ret (.ret v) env s
        else .ret .next env s := rfl
      rw [e3, e1, R0.bind_ret]
      cases b with
      | false =>
        rw [if_neg Bool.false_ne_true] at hb ⊢
        exact .inl ⟨env1, s1, rfl, hb⟩
      | true =>
        rw [if_pos rfl] at hb ⊢
        obtain ⟨f, env2, s2, e2, h2⟩ := retW_inv hb
        rw [e2, R0.bind_ret]
        cases f with
        | next => obtain ⟨n', hl, h2⟩ := h2; exact ih n' env2 s2 h2 (by omega)
        | cont => obtain ⟨n', hl, h2⟩ := h2; exact ih n' env2 s2 h2 (by omega)
        | ret v => exact .inr ⟨v, env2, s2, rfl, h2⟩
  rcases go m n env s h0 hm with ⟨env', s', h1, h2⟩ | ⟨v, env', s', h1, h2⟩
  · exact hn env' s' (e.symm.trans h1) h2
  · exact hr v env' s' (e.symm.trans h1) h2
/-- a comprehension that neither draws nor stores -/
theorem lc_use {tg : Tg} {envb : Env0} {tst : Env0 → Drw → R0 Bool} {elt : Env0 → Drw → R0 VV} {xs acc : List VV} {s : Drw} {T : Option (List VV × Drw)} {G : Prop} (e : lc0 tg envb tst elt acc xs s = T) (p : VV → Bool) (f : VV → VV) (hl : acc.length + xs.length ≤ SL)
    (h : ∀ v ∈ xs, ∃ e1, asgV tg v envb = some e1 ∧ retW (tst e1 s) fun b e2 s2 => b = p v ∧ s2 = s ∧ (p v = true → retW (elt e2 s) fun u _ s3 => u = f v ∧ s3 = s))
    (hn : T = some (acc ++ (xs.filter p).map f, s) → G) : G :=
  hn (e.symm.trans (lc0_pure p f xs acc (fun v hv => by
    obtain ⟨a, h1, hw⟩ := h v hv
    obtain ⟨b, e2, s2, h2, rfl, rfl, h3⟩ := retW_inv hw
    refine ⟨a, e2, h1, h2, fun hp => ?_⟩
    obtain ⟨u, e3, s3, h4, rfl, rfl⟩ := retW_inv (h3 hp)
    exact ⟨e3, h4⟩) hl))
/-- .. without a test -/
theorem lc_useM {tg : Tg} {envb : Env0} {tst : Env0 → Drw → R0 Bool} {elt : Env0 → Drw → R0 VV} {xs acc : List VV} {s : Drw} {T : Option (List VV × Drw)} {G : Prop} (e : lc0 tg envb tst elt acc xs s = T) (f : VV → VV) (hl : acc.length + xs.length ≤ SL)
    (h : ∀ v ∈ xs, ∃ e1, asgV tg v envb = some e1 ∧ retW (tst e1 s) fun b e2 s2 => b = true ∧ s2 = s ∧ retW (elt e2 s) fun u _ s3 => u = f v ∧ s3 = s)
    (hn : T = some (acc ++ xs.map f, s) → G) : G :=
  hn (e.symm.trans (lc0_map f xs acc (fun v hv => by
    obtain ⟨a, h1, hw⟩ := h v hv
    obtain ⟨b, e2, s2, h2, rfl, rfl, h3⟩ := retW_inv hw
    obtain ⟨u, e3, s3, h4, rfl, rfl⟩ := retW_inv h3
    exact ⟨a, e2, h1, h2, e3, h4⟩) hl))
/-- .. that draws -/
theorem lc_useD {tg : Tg} {envb : Env0} {tst : Env0 → Drw → R0 Bool} {elt : Env0 → Drw → R0 VV} {xs acc : List VV} {s : Drw} {T : Option (List VV × Drw)} {G : Prop} (e : lc0 tg envb tst elt acc xs s = T) (P : VV → VV → Prop) (hl : acc.length + xs.length ≤ SL)
    (h : ∀ v ∈ xs, ∀ s, ∃ e1, asgV tg v envb = some e1 ∧ retW (tst e1 s) fun b e2 s2 => b = true ∧ s2 = s ∧ retW (elt e2 s) fun u _ _ => P v u)
    (hn : ∀ us s', T = some (acc ++ us, s') → us.length = xs.length → (∀ u ∈ us, ∃ v ∈ xs, P v u) → (∀ i (h : i < xs.length) (h2 : i < us.length), P xs[i] us[i]) → G) : G := by
  obtain ⟨us, s', h1, h2, h3, h4⟩ := lc0_ex (s := s) P xs acc (fun v hv s => by
    obtain ⟨a, h1, hw⟩ := h v hv s
    obtain ⟨b, e2, s2, h2, rfl, rfl, h3⟩ := retW_inv hw
    obtain ⟨u, e3, s3, h4, hp⟩ := retW_inv h3
    exact ⟨a, e2, h1, h2, u, e3, s3, h4, hp⟩) hl
  exact hn us s' (e.symm.trans h1) h2 h3 h4
theorem cut_len {α : Type} (xs : List α) (lo hi : Option Int) : (cut xs lo hi).length ≤ xs.length := by
  unfold cut
  rw [List.length_take, List.length_drop]
  omega
theorem all_le {a b : Nat} (h : a ≤ b) : le' a b = true := le_t h
end MP.Z

namespace MP
open PySem PySem.Spec PyProof.Rows L2
theorem strs_of_signs {x : Str} {vs : List Value} (h : ∀ j v, vs[j]? = some v → SignAt x j v) (hl : vs.length = x.cps.size) : StrsAre vs (x.cps.toList.map fun c => (⟨#[c]⟩ : Str)) := by
  have all : StrsAre vs (vs.map strOf) := strsAre_map vs fun v hv => by
    obtain ⟨j, hj⟩ := List.getElem?_of_mem hv
    obtain ⟨c, u, _, e⟩ := h j v hj
    exact ⟨_, u, e⟩
  have e : vs.map strOf = x.cps.toList.map fun c => (⟨#[c]⟩ : Str) := by
    apply List.ext_getElem?
    intro j
    have ex : x.cps.toList[j]? = x.cps[j]? := by simp
    rw [List.getElem?_map, List.getElem?_map, ex]
    cases q : vs[j]? with
    | none =>
      have : vs.length ≤ j := List.getElem?_eq_none_iff.mp q
      rw [Array.getElem?_eq_none (by omega)]
      rfl
    | some v =>
      obtain ⟨c, u, e1, e2⟩ := h j v q
      rw [e1, e2]
      rfl
  rw [← e]
  exact all
theorem ObjOk.there {P : Program} {w : World} {H : Hp} {h : Heap} {a : Addr} {o : HO} (x : ObjOk P w H h a o) : ∃ u, h.get? a = some u := by
  cases o with
  | lst xs => obtain ⟨_, _, _, _, e⟩ := x; exact ⟨_, e⟩
  | tup xs => obtain ⟨_, _, _, o, p, _⟩ := x; exact ⟨_, p⟩
  | dK kvs => obtain ⟨_, _, _, _, o, _, _, e, _⟩ := x; exact ⟨_, e⟩
  | dT kvs => obtain ⟨_, _, _, _, o, _, _, e, _⟩ := x; exact ⟨_, e⟩
  | set S n => obtain ⟨o, _, _, _, e, _⟩ := x; exact ⟨_, e⟩
  | ins C dx fs => obtain ⟨_, _, _, e, _⟩ := x; exact ⟨_, e⟩
  | own y => exact x
  | xd fs => obtain ⟨_, ⟨_, _, _, e, _⟩, _⟩ := x; exact ⟨_, e⟩
  | rng lo hi => obtain ⟨_, _, _, e⟩ := x; exact ⟨_, e⟩
  | frz ob u => obtain ⟨e, _⟩ := x; exact ⟨_, e⟩
  | tbl ps => exact ⟨_, show h.get? a = some _ from x⟩
  | met f y => exact ⟨_, show h.get? a = some _ from x⟩
  | ext φ => obtain ⟨_, e, _⟩ := x; exact e
theorem sorted_text {prog : Program} {w : World} {A : Around} {E : Value → Shared → Prop} {s : Shared} {x : Str} {t : Tok} {Q : Value → Shared → Prop} (hh : A.handled = none) (hn : x.cps.size ≤ sizeLine)
    (hQ : ∀ s' p (out : Array Value) (c : Nat) (ss : List Str), (∀ b o, s.heap.get? b = some o → s'.heap.get? b = some o) → s'.gens = s.gens → s'.drawn = s.drawn → s'.os = s.os → s.heap.get? p = none →
      s'.heap.get? p = some (seqObj "list" out c) → StrsAre out.toList ss → ss.Perm (x.cps.toList.map fun c => (⟨#[c]⟩ : Str)) → sortedS ss = true → Q (.ref p) s') : wpAny (model prog w) A (call (.builtin "sorted") [.str x t]) Q E s := by
  refine Calls.call_function_entry kind_sorted plain_sorted
    entry_sorted (args_sorted1 _) ?_
  unfold Builtin.«sorted»
  refine wpAny_bind (m := checkCount "sorted" 1 1 _) (wpAny_pure (wpAny_bind (wpAny_collect_str (A := A.in1) hh x t (fun s1 acc k1 g1 d1 o1 it => ?_) hn)))
  have hvl : acc.toList.length = x.cps.size := by rw [Array.length_toList]; exact it.1
  have hS : StrsAre acc.toList (x.cps.toList.map fun c => (⟨#[c]⟩ : Str)) := strs_of_signs (fun j v e => it.2 j v (by simpa using e)) hvl
  have hz : acc.toList.length ≤ sizeLine := by rw [hvl]; exact hn
  refine wpAny_bind (wpAny_newList ?_ hz)
  generalize hA : acc.toList = vs at hS hvl hz
  have hoL : (s1.heap.push (seqObj "list" vs.toArray 0)).get? s1.heap.objs.size = some (seqObj "list" vs.toArray 0) :=
    Heap.get?_push_size _ rfl
  refine wpAny_bind (wpAny_holding (wpAny_call_entry slot_list_sort ⟨_, hoL, rfl⟩ entry_list_sort
    (list_sort_treeKAny strKind_oneLt hoL hS.keysOf (fun v₁ v₂ rest e => keyKind_strs (by rw [← e]; exact hS)) hz fun st' a1 a2 => ⟨_, rfl, ?_⟩)
    (args_list_sort _)))
  obtain ⟨ss', q1, q2, q3⟩ := sorted_out_str hS a1 a2
  obtain ⟨c, hc⟩ := sortedHeap_at (vs := vs) (out := (arrOf st').map (·.2)) hoL
  have hp0 : s.heap.get? s1.heap.objs.size = none := by
    cases q : s.heap.get? s1.heap.objs.size with
    | none => rfl
    | some u => exact absurd (Heap.lt_size (k1 _ _ q)) (Nat.lt_irrefl _)
  refine wpAny_pure ⟨_, rfl, hQ _ s1.heap.objs.size _ c ss' (fun b u e => ?_) g1 d1 o1 hp0 hc q1 q2 q3⟩
  have q := k1 b u e
  have hlt := Heap.lt_size q
  exact (sortedHeap_old (Nat.ne_of_lt hlt) (by rw [size_push']; exact Nat.lt_succ_of_lt hlt)).trans (Heap.get?_push_of_some _ q)
end MP

namespace MP
open PySem PySem.Spec PyProof.Rows L2
section
variable {X : Cx} {cA : Nat → Addr}
theorem RepL.one_inv {K : PySem.W.Frag} {ρ : Nat → Addr} {n : Nat} {H : Hp} {a : PV} {xs : List V} (r : RepL K ρ n H [a] xs) : ∃ x, xs = [x] ∧ Rep K ρ n H a x := by
  cases r with | cons a b => cases b; exact ⟨_, rfl, a⟩
theorem RepL.two_inv {K : PySem.W.Frag} {ρ : Nat → Addr} {n : Nat} {H : Hp} {a b : PV} {xs : List V} (r : RepL K ρ n H [a, b] xs) : ∃ x y, xs = [x, y] ∧ Rep K ρ n H a x ∧ Rep K ρ n H b y := by
  cases r with | cons a r => cases r with | cons b c => cases c; exact ⟨_, _, rfl, a, b⟩
theorem cr_len : CallR X (.builtin "len") (Lsf X.K cA (biS .len)) := by
  intro pins s σ H xs us Q I r hh
  obtain ⟨ρ, h, vs, E, sim, rl, hw⟩ := hh
  match vs, rl, hw with
  | [.str z], rl, hw =>
    obtain ⟨x, rfl, rx⟩ := rl.one_inv
    obtain ⟨rfl, o⟩ := rx.str_inv
    refine call_len pins s σ H _ us Q I r ⟨_, z.length, rfl, ⟨by rw [toS_len]; exact o.1, (toS_len z).symm⟩, PostV.now hw sim (.int _)⟩
  | [.tup ys], rl, hw =>
    obtain ⟨x, rfl, rx⟩ := rl.one_inv
    obtain ⟨a, ws, rfl, t, rr⟩ := rx.tup_inv
    exact call_len_seq pins s σ H _ us Q I r ⟨a, ws, rfl, .inr t, by rw [← rr.length]; exact PostV.now hw sim (.int _)⟩
  | [.ref q], rl, hw =>
    obtain ⟨x, rfl, rx⟩ := rl.one_inv
    obtain rfl := rx.ref_inv
    simp only [biS] at hw
    split at hw
    · rename_i ys g
      obtain ⟨ws, t, rr⟩ := sim.obj q _ g
      exact call_len_seq pins s σ H _ us Q I r ⟨_, ws, rfl, .inl (SqL.of t), by rw [← rr.length]; exact PostV.now hw sim (.int _)⟩
    · rename_i ys g
      obtain ⟨ws, t, rr⟩ := sim.obj q _ g
      exact call_len_seq pins s σ H _ us Q I r ⟨_, ws, rfl, .inl t.sql, by rw [← rr.length]; exact PostV.now hw sim (.int _)⟩
    · rename_i kvs g
      obtain ⟨kw, t, rk⟩ := sim.obj q _ g
      obtain ⟨u, rfl, ru⟩ := vals1 r
      cases ru
      have e : kvs.length = kw.length := Paired.length rk
      exact d_len I (.inl t) fun tk s' I' => ⟨.int _, H, I', ⟨tk, rfl⟩, by rw [← e]; exact PostV.now hw sim (.int _)⟩
    · exact hw.elim
theorem cr_list (hc : X.calm = true) : CallR X (.type "list") (Lsf X.K cA (biS .list)) := by
  intro pins s σ H xs us Q I r hh
  obtain ⟨ρ, h, vs, E, sim, rl, hw⟩ := hh
  have fin : ∀ v ys, vs = [v] → seqOf h v = some ys → (newLst h ys).wp (PostV X.K cA ρ h H Q) E → wpAny (model X.prog X.w) X.A (call (.type "list") us) (EP X pins σ Q) X.xe s := by
    intro v ys e g hw2
    subst e
    obtain ⟨x, rfl, rx⟩ := rl.one_inv
    obtain ⟨a, ws, rfl, t, rr⟩ := seqOf_ok sim g rx
    have hw3 : PostV X.K cA ρ h H Q (.ref h.n) (h.push (.lst ys)) := hw2
    exact call_list_of pins s σ H _ us Q I r ⟨a, ws, rfl, t, fun p hp => PostV.lst hw3 sim rr hp⟩
  match vs, rl, hw, fin with
  | [], rl, hw, fin => exact hw.elim
  | a :: b :: c, rl, hw, fin => exact absurd hw (by cases a <;> exact fun q => q)
  | [v], rl, hw, fin =>
    cases v with
    | str z =>
      obtain ⟨x, rfl, rx⟩ := rl.one_inv
      obtain ⟨rfl, o⟩ := rx.str_inv
      obtain ⟨u, rfl, t, rfl⟩ := vals1 r
      have hw : PostV X.K cA ρ h H Q (.ref h.n) (h.push (.lst (z.map fun c => .str [c]))) := hw
      have hsz : (toS z).cps.size = z.length := by simp [toS]
      refine call_list_str (I.ok.hd hc) (toS z) t (fun h' tk acc c' hk hS hacc => ?_) (by rw [hsz]; exact o.1)
      have vals : Vals ((z.map fun c => toS [c]).map V.str) acc.toList := by
        refine vals_of_at (by rw [List.length_map, List.length_map, Array.length_toList]; exact (hacc.1.trans hsz).symm) fun j x w h1 h2 => ?_
        obtain ⟨c, u, g1, rfl⟩ := hacc.2 j w (by simpa using h2)
        rw [List.map_map, List.getElem?_map] at h1
        have g2 : z[j]? = some c := by simpa [toS] using g1
        rw [g2] at h1
        cases h1
        exact ⟨u, rfl⟩
      refine ⟨.ref _, _, I.laid (t' := tk) (o := .lst ((z.map fun c => toS [c]).map V.str)) hk (Nat.le_refl _) ?_, rfl, PostV.lst hw sim ?_ (I.hok.fresh (Nat.le_refl _))⟩
      · exact ⟨by rw [List.length_map, List.length_map]; exact o.1, acc.toList, c', vals, by simpa using hS⟩
      · have : ∀ l : List Nat, (∀ c ∈ l, c < 128) → RepL X.K ρ h.n H (l.map fun c => PV.str [c]) ((l.map fun c => toS [c]).map V.str) := by
          intro l
          induction l with
          | nil => intro _; exact .nil
          | cons c l ih => intro hl; exact .cons (.str (StrOk.one (hl c (List.mem_cons_self ..)))) (ih fun d hd => hl d (List.mem_cons_of_mem _ hd))
        exact this z o.2
    | tup ys => exact fin _ ys rfl rfl hw
    | ref q =>
      simp only [biS] at hw
      split at hw
      · rename_i ys g; exact fin _ ys rfl g hw
      · exact hw.elim
    | _ => exact hw.elim
theorem cr_tuple : CallR X (.type "tuple") (Lsf X.K cA (biS .tuple)) := by
  intro pins s σ H xs us Q I r hh
  obtain ⟨ρ, h, vs, E, sim, rl, hw⟩ := hh
  match vs, rl, hw with
  | [.tup ys], rl, hw =>
    obtain ⟨x, rfl, rx⟩ := rl.one_inv
    obtain ⟨a, ws, rfl, t, rr⟩ := rx.tup_inv
    exact call_tuple_of pins s σ H _ us Q I r ⟨a, ws, rfl, .inr ⟨t, PostV.now hw sim (.tup t rr)⟩⟩
  | [.ref q], rl, hw =>
    obtain ⟨x, rfl, rx⟩ := rl.one_inv
    obtain rfl := rx.ref_inv
    simp only [biS] at hw
    split at hw
    · rename_i ys g
      obtain ⟨ws, t, rr⟩ := sim.getL g
      exact call_tuple_of pins s σ H _ us Q I r ⟨_, ws, rfl, .inl ⟨t, fun p hp => PostV.tup hw sim rr hp⟩⟩
    · exact hw.elim
theorem cr_sortedS' (hc : X.calm = true) : CallR X (.builtin "sorted") (Lsf X.K cA (biS .sorted)) := by
  intro pins s σ H xs us Q I r hh
  obtain ⟨ρ, h, vs, E, sim, rl, hw⟩ := hh
  match vs, rl, hw with
  | [.ref q], rl, hw =>
    obtain ⟨x, rfl, rx⟩ := rl.one_inv
    obtain rfl := rx.ref_inv
    simp only [biS] at hw
    split at hw
    · rename_i ys g
      obtain ⟨ws, t, rr⟩ := sim.getL g
      split at hw
      · rename_i is e
        obtain ⟨hl, hw⟩ := okIf_wp hw
        have hl := le_of hl
        obtain rfl := intsOf_ok e rr
        refine cr_sorted pins s σ H _ us Q I r ⟨_, is, rfl, t, by omega, fun ns' p hp hs hn => ?_⟩
        have : ns' = sortI is := PySem.W.ksm_same (hp.trans (sortI_perm' is).symm) hs (sortI_pw is)
        subst this
        exact PostV.lst hw sim (RepL.ints _) hn
      · split at hw
        · rename_i ss e
          obtain ⟨hl, hw⟩ := okIf_wp hw
          have hl := le_of hl
          obtain ⟨rfl, os⟩ := strsOf_ok e rr
          refine L2.cr_sortedS pins s σ H _ us Q I r ⟨_, ss.map toS, rfl, t, by rw [List.length_map]; omega, fun ys' p hp hs hn => ?_⟩
          obtain rfl := sortedS_uniq hp hs
          exact PostV.lst hw sim (RepL.strs _ fun z hz => os z ((sortS_perm ss).mem_iff.mp hz)) hn
        · exact hw.elim
    · exact hw.elim
  | [.str z], rl, hw =>
    obtain ⟨x, rfl, rx⟩ := rl.one_inv
    obtain ⟨rfl, o⟩ := rx.str_inv
    obtain ⟨u, rfl, t, rfl⟩ := vals1 r
    have hw : PostV X.K cA ρ h H Q (.ref h.n) (h.push (.lst (strsPV (sortS (signsS z))))) := hw
    have hsz : (toS z).cps.size = z.length := by simp [toS]
    refine sorted_text (I.ok.hd hc) (by rw [hsz]; exact o.1) fun s' p out c ss hk hg hd ho hp0 hp hS hperm hsrt => ?_
    have e : ((toS z).cps.toList.map fun c => (⟨#[c]⟩ : Str)) = (signsS z).map toS := by simp [toS, signsS]
    rw [e] at hperm
    obtain rfl := sortedS_uniq hperm hsrt
    have hnH : H p = none := by
      cases q : H p with
      | none => rfl
      | some w =>
        obtain ⟨w', q'⟩ := ObjOk.there (I.hok p w q)
        rw [hp0] at q'
        cases q'
    have ok1 : ∀ w ∈ sortS (signsS z), StrOk w := fun w hw => by
      obtain ⟨c, hc, rfl⟩ := List.mem_map.mp ((sortS_perm _).mem_iff.mp hw)
      exact StrOk.one (o.2 c hc)
    have hlen : (sortS (signsS z)).length = z.length := by rw [(sortS_perm _).length_eq]; exact List.length_map ..
    obtain ⟨hp', gn, dr, tk, os'⟩ := s'
    cases hg; cases hd; cases ho
    refine ⟨.ref p, upd H p (.lst ((sortS (signsS z)).map toS |>.map V.str)), I.laidN (t' := tk) hk hp0 hnH ?_, rfl, PostV.lst hw sim (RepL.strs _ ok1) hnH⟩
    refine ⟨by rw [List.length_map, List.length_map, hlen]; exact o.1, out.toList, c, ?_, by rw [Array.toArray_toList]; exact hp⟩
    exact vals_of_strs hS
theorem cr_allS (hc : X.calm = true) : CallR X (.builtin "all") (Lsf X.K cA (biS .all)) := by
  intro pins s σ H xs us Q I r hh
  obtain ⟨ρ, h, vs, E, sim, rl, hw⟩ := hh
  match vs, rl, hw with
  | [.ref q], rl, hw =>
    obtain ⟨x, rfl, rx⟩ := rl.one_inv
    obtain rfl := rx.ref_inv
    simp only [biS] at hw
    split at hw
    · rename_i ys g
      obtain ⟨ws, t, rr⟩ := sim.getL g
      split at hw
      · rename_i is e
        obtain rfl := blsOf_ok e rr
        exact cr_all hc pins s σ H _ us Q I r ⟨_, is, rfl, t, PostV.now hw sim (.bl _)⟩
      · exact hw.elim
    · exact hw.elim
theorem cr_sumS (hc : X.calm = true) : CallR X (.builtin "sum") (Lsf X.K cA (biS .sum)) := by
  intro pins s σ H xs us Q I r hh
  obtain ⟨ρ, h, vs, E, sim, rl, hw⟩ := hh
  match vs, rl, hw with
  | [.ref q], rl, hw =>
    obtain ⟨x, rfl, rx⟩ := rl.one_inv
    obtain rfl := rx.ref_inv
    simp only [biS] at hw
    split at hw
    · rename_i ys g
      obtain ⟨ws, t, rr⟩ := sim.getL g
      split at hw
      · rename_i is e
        obtain rfl := intsOf_ok e rr
        exact cr_sum hc pins s σ H _ us Q I r ⟨_, is, rfl, t, PostV.now hw sim (.int _)⟩
      · exact hw.elim
    · exact hw.elim
  | [.tup ys], rl, hw =>
    obtain ⟨x, rfl, rx⟩ := rl.one_inv
    obtain ⟨a, ws, rfl, t, rr⟩ := rx.tup_inv
    simp only [biS] at hw
    split at hw
    · rename_i is e
      obtain rfl := intsOf_ok e rr
      obtain ⟨its, rv, pl, hz⟩ := I.tuple t
      rw [Vals.ref1 r]
      have hi := rv.ints
      obtain ⟨xs, ex⟩ := hi.allInts.items
      have hn : numsOf (PySem.intItems xs).toList = is := by rw [← ex]; exact hi.numsOf
      rw [nums_intItems] at hn
      have pl' : s.heap.IsTuple a its.toArray := pl
      rw [ex] at pl'
      refine PySem.W.ktm_sumG (I.ok.hd hc) pl' fun h' tk t' hk => ?_
      have hs : PySem.preSum (PySem.numAt xs) xs.size = is.sum := by
        rw [preSum_eq, List.take_of_length_le (by simp), hn]
      rw [hs]
      exact ⟨.int _, H, I.kept hk, ⟨_, rfl⟩, PostV.now hw sim (.int _)⟩
    · exact hw.elim
theorem cr_minS (hc : X.calm = true) : CallR X (.builtin "min") (Lsf X.K cA (biS .min)) := by
  intro pins s σ H xs us Q I r hh
  obtain ⟨ρ, h, vs, E, sim, rl, hw⟩ := hh
  match vs, rl, hw with
  | [.int i, .int j], rl, hw =>
    obtain ⟨x, y, rfl, rx, ry⟩ := rl.two_inv
    obtain rfl := rx.int_inv
    obtain rfl := ry.int_inv
    exact call_min2 hc pins s σ H _ us Q I r ⟨i, j, rfl, PostV.now hw sim (.int _)⟩
  | [.ref q], rl, hw =>
    obtain ⟨x, rfl, rx⟩ := rl.one_inv
    obtain rfl := rx.ref_inv
    simp only [biS] at hw
    split at hw
    · rename_i ys g
      obtain ⟨ws, t, rr⟩ := sim.getL g
      split at hw
      · rename_i i is e
        obtain rfl := intsOf_ok e rr
        refine cr_min hc pins s σ H _ us Q I r ⟨_, _, rfl, t, by simp, fun m hm hl => ?_⟩
        have sp := minL_spec is i
        have : m = minL i is := Int.le_antisymm (hl _ sp.1) (sp.2 _ hm)
        rw [this]
        exact PostV.now hw sim (.int _)
      · exact hw.elim
    · exact hw.elim
theorem cr_maxS (hc : X.calm = true) : CallR X (.builtin "max") (Lsf X.K cA (biS .max)) := by
  intro pins s σ H xs us Q I r hh
  obtain ⟨ρ, h, vs, E, sim, rl, hw⟩ := hh
  match vs, rl, hw with
  | [.int i, .int j], rl, hw =>
    obtain ⟨x, y, rfl, rx, ry⟩ := rl.two_inv
    obtain rfl := rx.int_inv
    obtain rfl := ry.int_inv
    exact call_max2 hc pins s σ H _ us Q I r ⟨i, j, rfl, PostV.now hw sim (.int _)⟩
  | [.ref q], rl, hw =>
    obtain ⟨x, rfl, rx⟩ := rl.one_inv
    obtain rfl := rx.ref_inv
    simp only [biS] at hw
    split at hw
    · rename_i ys g
      obtain ⟨ws, t, rr⟩ := sim.getL g
      split at hw
      · rename_i i is e
        obtain rfl := intsOf_ok e rr
        refine cr_max hc pins s σ H _ us Q I r ⟨_, _, rfl, t, by simp, fun m hm hl => ?_⟩
        have sp := maxL_spec is i
        have : m = maxL i is := Int.le_antisymm (sp.2 _ hm) (hl _ sp.1)
        rw [this]
        exact PostV.now hw sim (.int _)
      · exact hw.elim
    · exact hw.elim
/-! ### isinstance -/
def tyN : Ty → String
  | .int => "int"
  | .bool => "bool"
  | .str => "str"
  | .list => "list"
  | .tuple => "tuple"
  | .cls _ _ => ""
def tyB : Ty → Bool
  | .cls _ _ => false
  | _ => true
inductive K6 where
  | non | bool | int | str | tup | lst
def nm6 : K6 → String
  | .non => "NoneType"
  | .bool => "bool"
  | .int => "int"
  | .str => "str"
  | .tup => "tuple"
  | .lst => "list"
def ans6 : K6 → Ty → Bool
  | .bool, .bool => true
  | .bool, .int => true
  | .int, .int => true
  | .str, .str => true
  | .tup, .tuple => true
  | .lst, .list => true
  | _, _ => false
theorem kit_all (k : K6) (t : Ty) (ht : tyB t = true) : kitB (nm6 k) (tyN t) = some (ans6 k t) := by
  cases t with
  | cls d n => cases ht
  | _ => clear ht; cases k <;> decide +kernel
theorem ty_of {K : PySem.W.Frag} {ρ : Nat → Addr} {h : Hq} {H : Hp} (sim : Sim K cA ρ h H) {isa : Nat → Nat → Bool} {t : Ty} (ht : tyB t = true) {v : PV} {x : V} {b : Bool} (r : Rep K ρ h.n H v x) (e : isinS isa h v t = some b) :
    ∃ a, TyX K H x (.type (nm6 a)) ∧ b = ans6 a t := by
  have fin : ∀ (k : K6) (b' : Bool), b' = ans6 k t → some b' = some b → b = ans6 k t := fun k b' h1 h2 => by cases h2; exact h1
  cases v with
  | non => cases r; exact ⟨.non, .base .non, by cases t <;> first | (cases e; rfl) | cases ht⟩
  | bl c => cases r; exact ⟨.bool, .base (.bl c), by cases t <;> first | (cases e; rfl) | cases ht⟩
  | int c => cases r; exact ⟨.int, .base (.int c), by cases t <;> first | (cases e; rfl) | cases ht⟩
  | str c => obtain ⟨rfl, _⟩ := r.str_inv; exact ⟨.str, .base (.str _), by cases t <;> first | (cases e; rfl) | cases ht⟩
  | tup xs =>
    obtain ⟨a, vs, rfl, q, _⟩ := r.tup_inv
    refine ⟨.tup, ?_, by cases t <;> first | (cases e; rfl) | cases ht⟩
    rcases q with (q | ⟨o, q⟩) | ⟨o, its, n, q1, q2, _⟩
    · exact .base (.tup q)
    · exact .fTuple q
    · exact .kTuple q1 q2
  | ref q =>
    obtain rfl := r.ref_inv
    simp only [isinS] at e
    split at e
    · rename_i ys g
      obtain ⟨ws, q, _⟩ := sim.obj q _ g
      exact ⟨.lst, .base (.lst q), by cases t <;> first | (cases e; rfl) | cases ht⟩
    · rename_i ys g
      obtain ⟨ws, q, _⟩ := sim.obj q _ g
      refine ⟨.lst, ?_, by cases t <;> first | (cases e; rfl) | cases ht⟩
      rcases q with ⟨o, q⟩ | ⟨o, its, n, q1, q2, _⟩
      · exact .base (.frz q)
      · exact .kList q1 q2
    · cases e
theorem cr_isin {isa : Nat → Nat → Bool} {t : Ty} (ht : tyB t = true) : CallR X (.builtin "isinstance") (fun xs H Q => ∃ ρ h v x E, xs = [x, .ty (tyN t)] ∧ Sim X.K cA ρ h H ∧ Rep X.K ρ h.n H v x ∧ (ofB h (isinS isa h v t)).wp (PostV X.K cA ρ h H Q) E) := by
  intro pins s σ H xs us Q I r hh
  obtain ⟨ρ, h, v, x, E, rfl, sim, rx, hw⟩ := hh
  obtain ⟨b, e, hw⟩ := ofB_wp hw
  obtain ⟨a, ty, eb⟩ := ty_of sim ht rx e
  exact call_isi pins s σ H _ us Q I r ⟨x, .ty (tyN t), .type (nm6 a), .type (tyN t), b, rfl, .ty _, ty, kit_ty (by rw [kit_all a t ht, eb]), PostV.now hw sim (.bl _)⟩
end
end MP

namespace MP
open PySem PySem.Spec PyProof.Rows L2
section
variable {X : Cx} {cA : Nat → Addr}
/-- a method's reading -/
def Lmf (K : PySem.W.Frag) (cA : Nat → Addr) (f : Hq → PV → List PV → Res PV) : V → List V → Hp → VK → Prop := fun x xs H Q => ∃ ρ h v vs E, Sim K cA ρ h H ∧ Rep K ρ h.n H v x ∧ RepL K ρ h.n H vs xs ∧ (f h v vs).wp (PostV K cA ρ h H Q) E
theorem Sim.writeL {K : PySem.W.Frag} {ρ : Nat → Addr} {h : Hq} {H : Hp} {r : Nat} {xs ys : List PV} {vs ws : List V} (sim : Sim K cA ρ h H) (e : h.get r = some (.lst xs)) (a : H (ρ r) = some (.lst vs)) (rl : RepL K ρ h.n H ys ws) : Sim K cA ρ (h.set r (.lst ys)) (upd H (ρ r) (.lst ws)) :=
  sim.write e rfl rfl (by rw [a]; trivial) ⟨ws, upd_same, rl.mono (le_wr (by rw [a]; trivial))⟩
theorem mt_appendS : MtR X "list.append" (Lmf X.K cA (mtS .append)) := by
  intro pins s σ H x xs v us Q I rx rs hh
  obtain ⟨ρ, h, a, as, E, sim, ra, rl, hw⟩ := hh
  cases a <;> try exact hw.elim
  rename_i q
  obtain rfl := ra.ref_inv
  match as, rl, hw with
  | [], rl, hw => exact hw.elim
  | _ :: _ :: _, rl, hw => exact hw.elim
  | [b], rl, hw =>
    obtain ⟨y, rfl, ry⟩ := rl.one_inv
    simp only [mtS] at hw
    split at hw
    · rename_i zs g
      obtain ⟨hl, hw⟩ := okIf_wp hw
      have hl := le_of hl
      obtain ⟨vs, t, rr⟩ := sim.lst g
      have wr : Wr (H (ρ q)) := by rw [t]; trivial
      refine mt_append pins s σ H _ _ v us Q I rx rs ⟨_, vs, y, rfl, rfl, t, by rw [← rr.length]; exact hl, hw ρ _ _ (le_wr wr) (sim.writeL g t (rr.append (.cons ry .nil))) .non⟩
    · exact hw.elim
theorem RepL.last {K : PySem.W.Frag} {ρ : Nat → Addr} {n : Nat} {H : Hp} {xs : List PV} {vs : List V} (r : RepL K ρ n H xs vs) {x : PV} (e : xs.getLast? = some x) : ∃ v, vs[vs.length - 1]? = some v ∧ Rep K ρ n H x v := by
  rw [List.getLast?_eq_getElem?] at e
  obtain ⟨v, h1, h2⟩ := r.get e
  exact ⟨v, by rw [← r.length]; exact h1, h2⟩
theorem mt_popS : MtR X "list.pop" (Lmf X.K cA (mtS .pop)) := by
  intro pins s σ H x xs v us Q I rx rs hh
  obtain ⟨ρ, h, a, as, E, sim, ra, rl, hw⟩ := hh
  cases a <;> try exact hw.elim
  rename_i q
  obtain rfl := ra.ref_inv
  match as, rl, hw with
  | _ :: _, rl, hw => exact hw.elim
  | [], rl, hw =>
    cases rl
    simp only [mtS] at hw
    split at hw
    · rename_i zs g
      split at hw
      · rename_i z e
        obtain ⟨vs, t, rr⟩ := sim.lst g
        have wr : Wr (H (ρ q)) := by rw [t]; trivial
        obtain ⟨y, e1, r1⟩ := rr.last e
        exact mt_pop pins s σ H _ _ v us Q I rx rs ⟨_, vs, y, rfl, rfl, t, e1, hw ρ _ _ (le_wr wr) (sim.writeL g t rr.dropLast) (r1.mono (le_wr wr))⟩
      · exact hw.elim
    · exact hw.elim
theorem mt_indexSS : MtR X "str.index" (Lmf X.K cA (mtS .indexS)) := by
  intro pins s σ H x xs v us Q I rx rs hh
  obtain ⟨ρ, h, a, as, E, sim, ra, rl, hw⟩ := hh
  cases a <;> try exact hw.elim
  rename_i z
  obtain ⟨rfl, oz⟩ := ra.str_inv
  match as, rl, hw with
  | [.str [c]], rl, hw =>
    obtain ⟨y, rfl, ry⟩ := rl.one_inv
    obtain ⟨rfl, oc⟩ := ry.str_inv
    obtain ⟨b, e, hw2⟩ := ofV_wp hw
    cases e1 : idxOf (· == c) z with
    | none => rw [e1] at e; cases e
    | some i =>
      rw [e1] at e
      cases e
      obtain ⟨d, g1, g2, g3⟩ := idxOf_spec e1
      have ed : d = c := by simpa using g2
      subst ed
      refine mt_sindex pins s σ H _ _ v us Q I rx rs ⟨toS z, toS [d], i, [], rfl, rfl, ?_, PostV.now hw2 sim (.int _)⟩
      refine occ_one (toS z) d i (by simpa [toS] using g1) fun j hj hq => ?_
      have := g3 j d hj (by simpa [toS] using hq)
      simp at this
theorem mt_indexLS : MtR X "list.index" (Lmf X.K cA (mtS .indexL)) := by
  intro pins s σ H x xs v us Q I rx rs hh
  obtain ⟨ρ, h, a, as, E, sim, ra, rl, hw⟩ := hh
  cases a <;> try exact hw.elim
  rename_i q
  obtain rfl := ra.ref_inv
  match as, rl, hw with
  | [], rl, hw => exact hw.elim
  | _ :: _ :: _, rl, hw => exact hw.elim
  | [b], rl, hw =>
    obtain ⟨y, rfl, ry⟩ := rl.one_inv
    simp only [mtS] at hw
    split at hw
    · rename_i zs g
      obtain ⟨hl, hw⟩ := okIf_wp hw
      rw [Bool.and_eq_true] at hl
      obtain ⟨vs, t, rr⟩ := sim.getL g
      obtain ⟨w, e, hw⟩ := ofV_wp hw
      cases e1 : idxOf (fun y => eqF y b) zs with
      | none => rw [e1] at e; cases e
      | some i =>
        rw [e1] at e
        cases e
        obtain ⟨d, g1, g2, g3⟩ := idxOf_spec e1
        obtain ⟨dv, g4, rd⟩ := rr.get g1
        have fl := flats_of rr hl.2
        have fz : ∀ j z, zs[j]? = some z → flat z = true := fun j z hz => List.all_eq_true.mp hl.2 z (List.mem_of_getElem? hz)
        refine mt_index pins s σ H _ _ v us Q I rx rs ⟨_, vs, y, i, dv, rfl, rfl, t, flatV_of ry hl.1, fl, g4, by rw [eqV_of rd ry (fz _ _ g1) hl.1]; exact g2, fun m z' hm hz => ?_, PostV.now hw sim (.int _)⟩
        have hmz : m < zs.length := by rw [rr.length]; exact (List.getElem?_eq_some_iff.mp hz).1
        obtain ⟨zv, g5, rz⟩ := rr.get (List.getElem?_eq_getElem hmz)
        rw [hz] at g5
        cases g5
        rw [eqV_of rz ry (fz m _ (List.getElem?_eq_getElem hmz)) hl.1]
        exact g3 m _ hm (List.getElem?_eq_getElem hmz)
    · exact hw.elim
theorem joinS_len (s : List Nat) : ∀ ss : List (List Nat), (joinS s ss).length ≤ sumN (ss.map List.length) + ss.length * s.length
  | [] => by simp [joinS]
  | [p] => by simp [joinS, sumN]
  | p :: q :: r => by
    show (p ++ (s ++ joinS s (q :: r))).length ≤ _
    have ih := joinS_len s (q :: r)
    rw [List.length_append, List.length_append, List.map_cons, sumN, List.length_cons, Nat.succ_mul]
    omega
theorem joinS_mem (s : List Nat) : ∀ (ss : List (List Nat)) (c : Nat), c ∈ joinS s ss → c ∈ s ∨ ∃ p ∈ ss, c ∈ p
  | [], c, h => by cases h
  | [p], c, h => .inr ⟨p, by simp, h⟩
  | p :: q :: r, c, h => by
    rcases List.mem_append.mp (show c ∈ p ++ (s ++ joinS s (q :: r)) from h) with h | h
    · exact .inr ⟨p, by simp, h⟩
    · rcases List.mem_append.mp h with h | h
      · exact .inl h
      · rcases joinS_mem s (q :: r) c h with h | ⟨p', h1, h2⟩
        · exact .inl h
        · exact .inr ⟨p', List.mem_cons_of_mem _ h1, h2⟩
theorem joinS_eq (s : List Nat) : ∀ ss : List (List Nat), joinS s ss = TL.joinL s ss
  | [] => rfl
  | [_] => rfl
  | p :: q :: r => by
    show p ++ (s ++ joinS s (q :: r)) = p ++ (s ++ TL.joinL s (q :: r))
    rw [joinS_eq s (q :: r)]
theorem txt_join (s : List Nat) (ss : List (List Nat)) : Txt.join (toS s) (ss.map toS) = toS (joinS s ss) := by
  refine TL.ext_tl ?_
  rw [TL.join_eq, TL.tl_join, joinS_eq]
  show TL.joinL (toS s).cps.toList _ = (toS (TL.joinL s ss)).cps.toList
  have e : (ss.map toS).map TL.tl = ss := by
    rw [List.map_map]
    have : (TL.tl ∘ toS) = id := by funext l; simp [TL.tl, toS]
    rw [this, List.map_id]
  rw [e]
theorem sum_toS (ss : List (List Nat)) : ((ss.map toS).map (·.length)).sum = sumN (ss.map List.length) := by
  induction ss with
  | nil => rfl
  | cons a r ih => rw [List.map_cons, List.map_cons, List.sum_cons, ih, List.map_cons, sumN, toS_len]
theorem mt_joinS : MtR X "str.join" (Lmf X.K cA (mtS .join)) := by
  intro pins s σ H x xs v us Q I rx rs hh
  obtain ⟨ρ, h, a, as, E, sim, ra, rl, hw⟩ := hh
  cases a <;> try exact hw.elim
  rename_i z
  obtain ⟨rfl, oz⟩ := ra.str_inv
  match as, rl, hw with
  | [.ref q], rl, hw =>
    obtain ⟨y, rfl, ry⟩ := rl.one_inv
    obtain rfl := ry.ref_inv
    simp only [mtS] at hw
    split at hw
    · rename_i zs g
      obtain ⟨vs, t, rr⟩ := sim.getL g
      split at hw
      · rename_i ss e
        obtain ⟨hl, hw⟩ := okIf_wp hw
        have hl := le_of hl
        obtain ⟨rfl, os⟩ := strsOf_ok e rr
        refine mt_join pins s σ H _ _ v us Q I rx rs ⟨toS z, _, ss.map toS, rfl, rfl, .inl t, by rw [sum_toS, List.length_map, toS_len]; exact hl, ?_⟩
        rw [txt_join]
        refine PostV.now hw sim (.str ⟨Nat.le_trans (joinS_len z ss) hl, fun c hc => ?_⟩)
        rcases joinS_mem z ss c hc with h | ⟨p, h1, h2⟩
        · exact oz.2 c h
        · exact (os p h1).2 c h2
      · exact hw.elim
    · exact hw.elim
theorem spl_mem (S : List Nat) : ∀ (l : List Nat) (k : Nat) (acc : List Nat) (p : List Nat), p ∈ TL.spl S k acc l → (∀ c ∈ p, c ∈ acc ∨ c ∈ l) ∧ p.length ≤ acc.length + l.length
  | [], k, acc, p, h => by
    rw [TL.spl_nil] at h
    rw [List.mem_singleton.mp h]
    exact ⟨fun c hc => .inl hc, by simp⟩
  | c :: l, 0, acc, p, h => by
    unfold TL.spl at h
    split at h
    · rcases List.mem_cons.mp h with rfl | h
      · exact ⟨fun c hc => .inl hc, by omega⟩
      · obtain ⟨h1, h2⟩ := spl_mem S l _ _ p h
        exact ⟨fun d hd => (h1 d hd).elim (fun q => nomatch q) fun q => .inr (List.mem_cons_of_mem _ q), by rw [List.length_cons]; simp at h2; omega⟩
    · obtain ⟨h1, h2⟩ := spl_mem S l _ _ p h
      refine ⟨fun d hd => (h1 d hd).elim (fun q => ?_) fun q => .inr (List.mem_cons_of_mem _ q), by rw [List.length_append] at h2; rw [List.length_cons]; simp at h2; omega⟩
      rcases List.mem_append.mp q with q | q
      · exact .inl q
      · exact .inr (by rw [List.mem_singleton.mp q]; exact List.mem_cons_self ..)
  | c :: l, k + 1, acc, p, h => by
    unfold TL.spl at h
    obtain ⟨h1, h2⟩ := spl_mem S l _ _ p h
    exact ⟨fun d hd => (h1 d hd).elim .inl fun q => .inr (List.mem_cons_of_mem _ q), by rw [List.length_cons]; omega⟩
theorem mt_splitS : MtR X "str.split" (Lmf X.K cA (mtS .split)) := by
  intro pins s σ H x xs v us Q I rx rs hh
  obtain ⟨ρ, h, a, as, E, sim, ra, rl, hw⟩ := hh
  cases a <;> try exact hw.elim
  rename_i z
  obtain ⟨rfl, oz⟩ := ra.str_inv
  match as, rl, hw with
  | [.str t], rl, hw =>
    obtain ⟨y, rfl, ry⟩ := rl.one_inv
    obtain ⟨rfl, ot⟩ := ry.str_inv
    obtain ⟨hl, hw⟩ := okIf_wp hw
    rw [Bool.and_eq_true] at hl
    have ht : t ≠ [] := by intro e; rw [e] at hl; exact absurd hl.1 (by decide)
    refine mt_split pins s σ H _ _ v us Q I rx rs ⟨toS z, toS t, rfl, rfl, ?_, by rw [toS_len]; exact le_of hl.2, fun p hp => ?_⟩
    · rw [toS_len]
      cases t with
      | nil => exact absurd rfl ht
      | cons a b => rfl
    · have tt : TL.tl (toS t) = t := by simp [TL.tl, toS]
      have tz : TL.tl (toS z) = z := by simp [TL.tl, toS]
      have e : Txt.split (toS z) (toS t) = (TL.spl t 0 [] z).map toS := by
        refine TL.map_tl_inj ?_
        rw [TL.split_spl _ _ (by rw [tt]; exact ht) (TL.kind_ok (by
          rw [Array.all_eq_true]
          intro i hi
          have hm : (toS t).cps[i] ∈ (toS t).cps := Array.getElem_mem hi
          have : (toS t).cps[i] < 128 := ot.2 _ (by simpa [toS] using hm)
          exact decide_eq_true (by omega))), tt, tz, List.map_map]
        have : (TL.tl ∘ toS) = id := by funext l; simp [TL.tl, toS]
        rw [this, List.map_id]
      rw [e]
      refine PostV.lst hw sim (RepL.strs _ fun q hq => ?_) hp
      obtain ⟨h1, h2⟩ := spl_mem t z 0 [] q hq
      exact ⟨Nat.le_trans (by simpa using h2) oz.1, fun c hc => (h1 c hc).elim (fun q => nomatch q) (oz.2 c)⟩
theorem digit_str (i : Int) (h0 : 0 ≤ i) (h1 : i < 10) : (toString i : String) = String.ofList [Char.ofNat (48 + i.toNat)] := by
  have : i = 0 ∨ i = 1 ∨ i = 2 ∨ i = 3 ∨ i = 4 ∨ i = 5 ∨ i = 6 ∨ i = 7 ∨ i = 8 ∨ i = 9 := by omega
  rcases this with rfl | rfl | rfl | rfl | rfl | rfl | rfl | rfl | rfl | rfl <;> decide +kernel
theorem digit_toS (i : Int) (h0 : 0 ≤ i) (h1 : i < 10) : Str.ofString (toString i) = toS [48 + i.toNat] := by
  have : i = 0 ∨ i = 1 ∨ i = 2 ∨ i = 3 ∨ i = 4 ∨ i = 5 ∨ i = 6 ∨ i = 7 ∨ i = 8 ∨ i = 9 := by omega
  rcases this with rfl | rfl | rfl | rfl | rfl | rfl | rfl | rfl | rfl | rfl <;> decide +kernel
theorem cr_strS : CallR X (.type "str") (Lsf X.K cA (biS .str)) := by
  intro pins s σ H xs us Q I r hh
  obtain ⟨ρ, h, vs, E, sim, rl, hw⟩ := hh
  match vs, rl, hw with
  | [.int i], rl, hw =>
    obtain ⟨x, rfl, rx⟩ := rl.one_inv
    obtain rfl := rx.int_inv
    obtain ⟨hl, hw2⟩ := okIf_wp hw
    rw [Bool.and_eq_true] at hl
    have h0 := of_decide_eq_true hl.1
    have h1 := of_decide_eq_true hl.2
    refine call_str_int pins s σ H _ us Q I r ⟨i, rfl, ?_, ?_⟩
    · have : i.natAbs.log2 ≤ i.natAbs := Nat.log2_le_self _
      omega
    · rw [digit_toS i h0 h1]
      exact PostV.now hw2 sim (.str (StrOk.one (by omega)))
  | [.str z], rl, hw =>
    obtain ⟨x, rfl, rx⟩ := rl.one_inv
    obtain ⟨rfl, o⟩ := rx.str_inv
    exact SkE.call_str_str pins s σ H _ us Q I r ⟨_, rfl, PostV.now hw sim (.str o)⟩
end
end MP

namespace MP
open PySem PySem.Spec PyProof.Rows L2
def SimE (K : PySem.W.Frag) (ρ : Nat → Addr) (n : Nat) (H : Hp) (env : Env) (σ : L2.St) : Prop :=
  env.length = σ.length ∧ ∀ (i : Nat) (v : PV), env[i]? = some (some v) → ∃ u, σ[i]? = some (some u) ∧ Rep K ρ n H v u
section
variable {K : PySem.W.Frag} {cA : Nat → Addr} {ρ ρ' : Nat → Addr} {n n' : Nat} {H H' : Hp} {env : Env} {σ : L2.St}
theorem SimE.mono (le : Le K ρ n H ρ' n' H') (s : SimE K ρ n H env σ) : SimE K ρ' n' H' env σ :=
  ⟨s.1, fun i v e => let ⟨u, h1, h2⟩ := s.2 i v e; ⟨u, h1, h2.mono le⟩⟩
theorem SimE.set (s : SimE K ρ n H env σ) (i : Nat) {v : PV} {u : V} (r : Rep K ρ n H v u) : SimE K ρ n H (env.set i (some v)) (σ.set i (some u)) := by
  refine ⟨by rw [List.length_set, List.length_set]; exact s.1, fun j w e => ?_⟩
  by_cases hj : i = j
  · subst hj
    have hl : i < env.length := by
      have := (List.getElem?_eq_some_iff.mp e).1
      simpa using this
    rw [List.getElem?_set_self hl] at e
    cases e
    exact ⟨u, by rw [List.getElem?_set_self (by rw [← s.1]; exact hl)], r⟩
  · rw [List.getElem?_set_ne hj] at e
    rw [List.getElem?_set_ne hj]
    exact s.2 j w e
theorem SimE.none (s : SimE K ρ n H env σ) (i : Nat) : SimE K ρ n H (env.set i none) (σ.set i none) := by
  refine ⟨by rw [List.length_set, List.length_set]; exact s.1, fun j w e => ?_⟩
  by_cases hj : i = j
  · subst hj
    have hl : i < env.length := by
      have := (List.getElem?_eq_some_iff.mp e).1
      simpa using this
    rw [List.getElem?_set_self hl] at e
    cases e
  · rw [List.getElem?_set_ne hj] at e
    rw [List.getElem?_set_ne hj]
    exact s.2 j w e
theorem SimE.wipe (s : SimE K ρ n H env σ) : ∀ vs : List Nat, SimE K ρ n H (wipeE env vs) (wipe σ vs)
  | [] => s
  | v :: vs => (s.wipe vs).none v
end
section
variable (K : PySem.W.Frag) (cA : Nat → Addr) (W : WX)
def LE (t : Env → Hq → Res PV) : TE := fun σ H Q => ∃ ρ h env, Sim K cA ρ h H ∧ SimE K ρ h.n H env σ ∧ (t env h).wp (PostV K cA ρ h H Q) (PostX K cA ρ h H W σ)
def LT (t : Env → Hq → Res PV) : TT := fun σ H Q => ∃ ρ h env, Sim K cA ρ h H ∧ SimE K ρ h.n H env σ ∧ (t env h).wp (fun v h' => ∃ b, v = .bl b ∧ ∀ ρ' H', Le K ρ h.n H ρ' h'.n H' → Sim K cA ρ' h' H' → Q b H') (PostX K cA ρ h H W σ)
def LA (t : Env → Hq → Res (List PV)) : TA := fun σ H Q => ∃ ρ h env, Sim K cA ρ h H ∧ SimE K ρ h.n H env σ ∧ (t env h).wp (fun vs h' => ∀ ρ' H' us, Le K ρ h.n H ρ' h'.n H' → Sim K cA ρ' h' H' → RepL K ρ' h'.n H' vs us → Q us H') (PostX K cA ρ h H W σ)
/-- what follows a value -/
def LV (f : PV → Env → Hq → Res PV) : V → L2.St → Hp → VK → Prop := fun x σ H Q => ∃ ρ h env v, Sim K cA ρ h H ∧ SimE K ρ h.n H env σ ∧ Rep K ρ h.n H v x ∧ (f v env h).wp (PostV K cA ρ h H Q) (PostX K cA ρ h H W σ)
end
section
variable {X : Cx} {cA : Nat → Addr} {W : WX}
theorem peI {e : Expr} {t t' : TE} (h : PE X e t) (hi : ∀ σ H Q, t' σ H Q → t σ H Q) : PE X e t' := ⟨fun pins s σ H Q I q => h.run pins s σ H Q I (hi _ _ _ q)⟩
theorem ptI {e : Expr} {t t' : TT} (h : PT X e t) (hi : ∀ σ H Q, t' σ H Q → t σ H Q) : PT X e t' := ⟨fun pins s σ H Q I q => h.run pins s σ H Q I (hi _ _ _ q)⟩
theorem paI {e : List Expr} {t t' : TA} (h : PA X e t) (hi : ∀ σ H Q, t' σ H Q → t σ H Q) : PA X e t' := ⟨fun pos pins s σ H Q I q => h.run pos pins s σ H Q I (hi _ _ _ q)⟩
/-- from one expression to what follows it -/
theorem LE.bind {K : PySem.W.Frag} {t : Env → Hq → Res PV} {f : PV → Env → Hq → Res PV} {σ : L2.St} {H : Hp} {Q : VK} (q : LE K cA W (fun env h => (t env h).bind fun v h1 => f v env h1) σ H Q) :
    LE K cA W t σ H (fun x H1 => LV K cA W f x σ H1 Q) := by
  obtain ⟨ρ, h, env, sim, se, hw⟩ := q
  rw [Res.wp_bind] at hw
  refine ⟨ρ, h, env, sim, se, Res.wp_mono hw (fun v h1 hv ρ1 H1 u1 le1 sim1 r1 => ⟨ρ1, h1, env, v, sim1, se.mono le1, r1, Res.wp_mono hv (fun z h3 p => p.from le1) fun c h3 p => p.from le1⟩) fun c h1 hc => hc⟩
/-- two expressions -/
theorem LE.bind2 {K : PySem.W.Frag} {ta tb : Env → Hq → Res PV} {f : Hq → PV → PV → Res PV} {σ : L2.St} {H : Hp} {Q : VK} (q : LE K cA W (fun env h => (ta env h).bind fun v h1 => (tb env h1).bind fun w h2 => f h2 v w) σ H Q) :
    tOp (L2f K cA f) (LE K cA W ta) (LE K cA W tb) σ H Q := by
  obtain ⟨ρ, h, env, sim, se, hw⟩ := q
  rw [Res.wp_bind] at hw
  refine ⟨ρ, h, env, sim, se, Res.wp_mono hw (fun v h1 hv ρ1 H1 u1 le1 sim1 r1 => ?_) fun c h1 hc => hc⟩
  rw [Res.wp_bind] at hv
  refine ⟨ρ1, h1, env, sim1, se.mono le1, Res.wp_mono hv (fun w h2 hw2 ρ2 H2 u2 le2 sim2 r2 => ?_) fun c h2 hc => hc.from le1⟩
  exact ⟨ρ2, h2, v, w, _, sim2, r1.mono le2, r2, Res.wp_mono hw2 (fun z h3 p => p.from (le1.trans le2)) fun _ _ q => q⟩
theorem LE.ret {K : PySem.W.Frag} {v : PV} {x : V} {σ : L2.St} {H : Hp} {Q : VK} (hr : ∀ ρ n, Rep K ρ n H v x) (q : LE K cA W (fun _ h => .ret v h) σ H Q) : Q x H := by
  obtain ⟨ρ, h, env, sim, se, hw⟩ := q
  exact PostV.now hw sim (hr ρ h.n)
theorem pl_non {j pos} : PE X (.Constant .none j pos) (LE X.K cA W fun _ h => .ret .non h) := peI pe_non fun σ H Q q => LE.ret (fun _ _ => .non) q
theorem pl_bl {b j pos} : PE X (.Constant (.bool b) j pos) (LE X.K cA W fun _ h => .ret (.bl b) h) := peI pe_bl fun σ H Q q => LE.ret (fun _ _ => .bl b) q
theorem pl_int {i j pos} : PE X (.Constant (.int i) j pos) (LE X.K cA W fun _ h => .ret (.int i) h) := peI pe_int fun σ H Q q => LE.ret (fun _ _ => .int i) q
theorem pl_str {s : List Nat} {x : Str} {j pos} (hx : x = toS s) (o : StrOk s) : PE X (.Constant (.str x) j pos) (LE X.K cA W fun _ h => .ret (.str s) h) := by
  subst hx
  exact peI pe_str fun σ H Q q => LE.ret (fun _ _ => .str o) q
theorem pl_var {i : Nat} {x : Str} {pos : Pos} (hN : X.N[i]? = some x) (hv : Vis X.env.scope x) (hd : (x == ("__debug__" : Str)) = false) (hcd : (x == ("__classdict__" : Str)) = false) :
    PE X (.Name x pos) (LE X.K cA W fun env h => varF env[i]? h) := by
  refine peI (pe_var hN hv hd hcd) fun σ H Q q => ?_
  obtain ⟨ρ, h, env, sim, se, hw⟩ := q
  simp only [varF] at hw
  split at hw
  · rename_i v e
    obtain ⟨u, h1, h2⟩ := se.2 i v e
    exact ⟨u, h1, PostV.now hw sim h2⟩
  · exact hw.elim
/-- a constant of the module -/
def ConstR (K : PySem.W.Frag) (v : PV) (u : Value) : Prop := ∃ x : V, RelV x u ∧ ∀ ρ n H, Rep K ρ n H v x
theorem pl_gc {x : Str} {u : Value} {v : PV} {pos : Pos} (hg : Gl X x) (hm : X.mg x = some u) (r : ConstR X.K v u) (hd : (x == ("__debug__" : Str)) = false) : PE X (.Name x pos) (LE X.K cA W fun _ h => .ret v h) := by
  obtain ⟨z, r1, r2⟩ := r
  exact peI (pe_glob hg hm r1 hd) fun σ H Q q => LE.ret (fun ρ n => r2 ρ n H) q
theorem pl_bin {op : Operator} {f : Hq → PV → PV → Res PV} {a b : Expr} {ta tb : Env → Hq → Res PV} {pos : Pos} (ho : OpR X (binaryOp op) (L2f X.K cA f)) (ha : PE X a (LE X.K cA W ta)) (hb : PE X b (LE X.K cA W tb)) :
    PE X (.BinOp a op b pos) (LE X.K cA W fun env h => (ta env h).bind fun v h1 => (tb env h1).bind fun w h2 => f h2 v w) := peI (pe_op ho ha hb) fun _ _ _ q => q.bind2
theorem LV.un {K : PySem.W.Frag} {f : Hq → PV → Res PV} {x : V} {σ : L2.St} {H : Hp} {Q : VK} (q : LV K cA W (fun v _ h => f h v) x σ H Q) : L1f K cA f x H Q := by
  obtain ⟨ρ, h, env, v, sim, se, r, hw⟩ := q
  exact ⟨ρ, h, v, _, sim, r, hw⟩
theorem LE.imp {K : PySem.W.Frag} {t : Env → Hq → Res PV} {σ : L2.St} {H : Hp} {Q Q' : VK} (q : LE K cA W t σ H Q) (hi : ∀ x H, Q x H → Q' x H) : LE K cA W t σ H Q' := by
  obtain ⟨ρ, h, env, sim, se, hw⟩ := q
  exact ⟨ρ, h, env, sim, se, Res.wp_mono hw (fun v h1 p ρ' H' u l s r => hi _ _ (p ρ' H' u l s r)) fun _ _ p => p⟩
theorem pl_neg {a : Expr} {ta : Env → Hq → Res PV} {pos : Pos} (ha : PE X a (LE X.K cA W ta)) : PE X (.UnaryOp .USub a pos) (LE X.K cA W fun env h => (ta env h).bind fun v h1 => negF v h1) :=
  peI (pe_un op_negS ha) fun σ H Q q => (LE.bind (f := fun v _ h1 => negF v h1) q).imp fun x H1 p => LV.un p
theorem pl_cmp {op : CmpOp} {f : Hq → PV → PV → Res PV} {a b : Expr} {ta tb : Env → Hq → Res PV} {pos : Pos} (ho : OpR X (compareOp op) (L2f X.K cA f)) (ha : PE X a (LE X.K cA W ta)) (hb : PE X b (LE X.K cA W tb)) (hm : behindInMarks op b = false) :
    PE X (.Compare a [op] [b] pos) (LE X.K cA W fun env h => (ta env h).bind fun v h1 => (tb env h1).bind fun w h2 => f h2 v w) := peI (pe_cmpR ho ha hb hm) fun _ _ _ q => q.bind2
theorem LT.le {K : PySem.W.Frag} {t : Env → Hq → Res PV} {σ : L2.St} {H : Hp} {Q : Bool → Hp → Prop} (q : LT K cA W t σ H Q) : LE K cA W t σ H (fun x H' => ∃ k, x = .bl k ∧ Q k H') := by
  obtain ⟨ρ, h, env, sim, se, hw⟩ := q
  refine ⟨ρ, h, env, sim, se, Res.wp_mono hw (fun v h1 ⟨b, e, p⟩ ρ1 H1 u1 le1 sim1 r1 => ?_) fun _ _ p => p⟩
  subst e
  exact ⟨b, r1.bl_inv, p ρ1 H1 le1 sim1⟩
theorem ptl_val {e : Expr} {t : Env → Hq → Res PV} (h : PE X e (LE X.K cA W t)) (he : ∀ whole, isTrue e X.env whole = (do let v ← whole; standAt e.pos; holding [v] (truthy v))) : PT X e (LT X.K cA W t) :=
  ptI (pt_val h he) fun σ H Q q => q.le
theorem ptl_cmp {op : CmpOp} {f : Hq → PV → PV → Res PV} {a b : Expr} {ta tb : Env → Hq → Res PV} {pos : Pos} (ho : OpR X (compareOp op) (L2f X.K cA f)) (ha : PE X a (LE X.K cA W ta)) (hb : PE X b (LE X.K cA W tb)) (hm : behindInMarks op b = false) :
    PT X (.Compare a [op] [b] pos) (LT X.K cA W fun env h => (ta env h).bind fun v h1 => (tb env h1).bind fun w h2 => f h2 v w) := ptI (pt_cmpR ho ha hb hm) fun σ H Q q => q.le.bind2
/-- is None -/
theorem LV.isN {K : PySem.W.Frag} {neg : Bool} {x : V} {σ : L2.St} {H : Hp} {Q : VK} (q : LV K cA W (fun v _ h1 => .ret (.bl (isNf neg v)) h1) x σ H Q) : Q (.bl (if neg then !decide (x = .non) else decide (x = .non))) H := by
  obtain ⟨ρ, h, env, v, sim, se, r, hw⟩ := q
  have p := PostV.now hw sim (.bl _)
  have e : decide (x = .non) = (match v with | .non => true | _ => false) := by
    cases r <;> simp
  rw [e]
  cases v <;> cases neg <;> exact p
theorem pl_isN {a : Expr} {ta : Env → Hq → Res PV} {j pos pos'} (ha : PE X a (LE X.K cA W ta)) : PE X (.Compare a [.Is] [.Constant .none j pos'] pos) (LE X.K cA W fun env h => (ta env h).bind fun v h1 => .ret (.bl (isNf false v)) h1) :=
  peI (pe_cmp (pc_isN ha)) fun σ H Q q => (LE.bind (f := fun v _ h1 => .ret (.bl (isNf false v)) h1) q).imp fun x H1 p => LV.isN (neg := false) p
theorem pl_notN {a : Expr} {ta : Env → Hq → Res PV} {j pos pos'} (ha : PE X a (LE X.K cA W ta)) : PE X (.Compare a [.IsNot] [.Constant .none j pos'] pos) (LE X.K cA W fun env h => (ta env h).bind fun v h1 => .ret (.bl (isNf true v)) h1) :=
  peI (pe_cmp (pc_notN ha)) fun σ H Q q => (LE.bind (f := fun v _ h1 => .ret (.bl (isNf true v)) h1) q).imp fun x H1 p => LV.isN (neg := true) p
theorem ptl_isN {a : Expr} {ta : Env → Hq → Res PV} {j pos pos'} (ha : PE X a (LE X.K cA W ta)) : PT X (.Compare a [.Is] [.Constant .none j pos'] pos) (LT X.K cA W fun env h => (ta env h).bind fun v h1 => .ret (.bl (isNf false v)) h1) :=
  ptI (pt_cmp (pc_isN ha)) fun σ H Q q => (LE.bind (f := fun v _ h1 => .ret (.bl (isNf false v)) h1) q.le).imp fun x H1 p => LV.isN (neg := false) p
theorem ptl_notN {a : Expr} {ta : Env → Hq → Res PV} {j pos pos'} (ha : PE X a (LE X.K cA W ta)) : PT X (.Compare a [.IsNot] [.Constant .none j pos'] pos) (LT X.K cA W fun env h => (ta env h).bind fun v h1 => .ret (.bl (isNf true v)) h1) :=
  ptI (pt_cmp (pc_notN ha)) fun σ H Q q => (LE.bind (f := fun v _ h1 => .ret (.bl (isNf true v)) h1) q.le).imp fun x H1 p => LV.isN (neg := true) p
theorem isB_op {neg b : Bool} {σ : L2.St} {H : Hp} {Q : VK} {t : Env → Hq → Res PV} (q : LE X.K cA W (fun env h => (t env h).bind fun v h1 => isBf neg b v h1) σ H Q) :
    tOp (fun x y H Q => ∃ a c : Bool, x = .bl a ∧ y = .bl c ∧ Q (.bl (if neg then !decide (a = c) else decide (a = c))) H) (LE X.K cA W t) (LE X.K cA W fun _ h => .ret (.bl b) h) σ H Q := by
  refine (LE.bind (f := fun v _ h1 => isBf neg b v h1) q).imp fun x H1 p => ?_
  obtain ⟨ρ, h, env, v, sim, se, r, hw⟩ := p
  cases v <;> try exact hw.elim
  rename_i c
  obtain rfl := r.bl_inv
  refine ⟨ρ, h, env, sim, se, fun ρ2 H2 u2 le2 sim2 r2 => ⟨c, b, rfl, r2.bl_inv, ?_⟩⟩
  exact hw ρ2 H2 _ le2 sim2 (.bl _)
theorem pl_isB {a : Expr} {ta : Env → Hq → Res PV} {b : Bool} {j pos pos'} (ha : PE X a (LE X.K cA W ta)) : PE X (.Compare a [.Is] [.Constant (.bool b) j pos'] pos) (LE X.K cA W fun env h => (ta env h).bind fun v h1 => isBf false b v h1) :=
  peI (pe_cmpR op_isBl ha (pl_bl (cA := cA) (W := W)) (nomark _)) fun σ H Q q => isB_op (neg := false) q
theorem pl_notB {a : Expr} {ta : Env → Hq → Res PV} {b : Bool} {j pos pos'} (ha : PE X a (LE X.K cA W ta)) : PE X (.Compare a [.IsNot] [.Constant (.bool b) j pos'] pos) (LE X.K cA W fun env h => (ta env h).bind fun v h1 => isBf true b v h1) :=
  peI (pe_cmpR op_notBl ha (pl_bl (cA := cA) (W := W)) (nomark _)) fun σ H Q q => isB_op (neg := true) q
theorem ptl_isB {a : Expr} {ta : Env → Hq → Res PV} {b : Bool} {j pos pos'} (ha : PE X a (LE X.K cA W ta)) : PT X (.Compare a [.Is] [.Constant (.bool b) j pos'] pos) (LT X.K cA W fun env h => (ta env h).bind fun v h1 => isBf false b v h1) :=
  ptI (pt_cmpR op_isBl ha (pl_bl (cA := cA) (W := W)) (nomark _)) fun σ H Q q => isB_op (neg := false) q.le
theorem ptl_notB {a : Expr} {ta : Env → Hq → Res PV} {b : Bool} {j pos pos'} (ha : PE X a (LE X.K cA W ta)) : PT X (.Compare a [.IsNot] [.Constant (.bool b) j pos'] pos) (LT X.K cA W fun env h => (ta env h).bind fun v h1 => isBf true b v h1) :=
  ptI (pt_cmpR op_notBl ha (pl_bl (cA := cA) (W := W)) (nomark _)) fun σ H Q q => isB_op (neg := true) q.le
/-! ### and, or, not, if .. else -/
theorem LE.ifB {K : PySem.W.Frag} {t : Env → Hq → Res PV} {fa fb : Env → Hq → Res PV} {σ : L2.St} {H : Hp} {Q : VK} (q : LE K cA W (fun env h => (t env h).bind fun v h1 => MP.ifB v h1 (fa env) (fb env)) σ H Q) :
    LT K cA W t σ H fun c H1 => if c = true then LE K cA W fa σ H1 Q else LE K cA W fb σ H1 Q := by
  obtain ⟨ρ, h, env, sim, se, hw⟩ := q
  rw [Res.wp_bind] at hw
  refine ⟨ρ, h, env, sim, se, Res.wp_mono hw (fun v h1 hv => ?_) fun _ _ p => p⟩
  cases v <;> try exact hv.elim
  rename_i b
  refine ⟨b, rfl, fun ρ1 H1 le1 sim1 => ?_⟩
  cases b with
  | true => rw [if_pos rfl]; exact ⟨ρ1, h1, env, sim1, se.mono le1, Res.wp_mono hv (fun z h3 p => p.from le1) fun c h3 p => p.from le1⟩
  | false => rw [if_neg Bool.false_ne_true]; exact ⟨ρ1, h1, env, sim1, se.mono le1, Res.wp_mono hv (fun z h3 p => p.from le1) fun c h3 p => p.from le1⟩
theorem LT.ifB {K : PySem.W.Frag} {t : Env → Hq → Res PV} {fa fb : Env → Hq → Res PV} {σ : L2.St} {H : Hp} {Q : Bool → Hp → Prop} (q : LT K cA W (fun env h => (t env h).bind fun v h1 => MP.ifB v h1 (fa env) (fb env)) σ H Q) :
    LT K cA W t σ H fun c H1 => if c = true then LT K cA W fa σ H1 Q else LT K cA W fb σ H1 Q := by
  obtain ⟨ρ, h, env, sim, se, hw⟩ := q
  rw [Res.wp_bind] at hw
  refine ⟨ρ, h, env, sim, se, Res.wp_mono hw (fun v h1 hv => ?_) fun _ _ p => p⟩
  cases v <;> try exact hv.elim
  rename_i b
  refine ⟨b, rfl, fun ρ1 H1 le1 sim1 => ?_⟩
  cases b with
  | true => rw [if_pos rfl]; exact ⟨ρ1, h1, env, sim1, se.mono le1, Res.wp_mono hv (fun z h3 ⟨b, e, p⟩ => ⟨b, e, fun ρ' H' l s => p ρ' H' (le1.trans l) s⟩) fun c h3 p => p.from le1⟩
  | false => rw [if_neg Bool.false_ne_true]; exact ⟨ρ1, h1, env, sim1, se.mono le1, Res.wp_mono hv (fun z h3 ⟨b, e, p⟩ => ⟨b, e, fun ρ' H' l s => p ρ' H' (le1.trans l) s⟩) fun c h3 p => p.from le1⟩
theorem LT.imp {K : PySem.W.Frag} {t : Env → Hq → Res PV} {σ : L2.St} {H : Hp} {Q Q' : Bool → Hp → Prop} (q : LT K cA W t σ H Q) (hi : ∀ x H, Q x H → Q' x H) : LT K cA W t σ H Q' := by
  obtain ⟨ρ, h, env, sim, se, hw⟩ := q
  exact ⟨ρ, h, env, sim, se, Res.wp_mono hw (fun v h1 ⟨b, e, p⟩ => ⟨b, e, fun ρ' H' l s => hi _ _ (p ρ' H' l s)⟩) fun _ _ p => p⟩
theorem LE.bl {K : PySem.W.Frag} {b : Bool} {σ : L2.St} {H : Hp} {Q : VK} (q : LE K cA W (fun _ h => .ret (.bl b) h) σ H Q) : Q (.bl b) H := LE.ret (fun _ _ => .bl b) q
theorem LT.bl {K : PySem.W.Frag} {b : Bool} {σ : L2.St} {H : Hp} {Q : Bool → Hp → Prop} (q : LT K cA W (fun _ h => .ret (.bl b) h) σ H Q) : Q b H := by
  obtain ⟨ρ, h, env, sim, se, c, e, hw⟩ := q
  cases e
  exact hw ρ H Le.refl sim
theorem pl_ite {c a b : Expr} {tc ta tb : Env → Hq → Res PV} {pos : Pos} (hc : PT X c (LT X.K cA W tc)) (ha : PE X a (LE X.K cA W ta)) (hb : PE X b (LE X.K cA W tb)) :
    PE X (.IfExp c a b pos) (LE X.K cA W fun env h => (tc env h).bind fun v h1 => MP.ifB v h1 (ta env) (tb env)) := peI (pe_ifExp hc ha hb) fun σ H Q q => q.ifB
theorem pl_and {a b : Expr} {rest : List Expr} {ta tb : Env → Hq → Res PV} {pos : Pos} (ha : PE X a (LE X.K cA W ta)) (hb : PE X (.BoolOp .And (b :: rest) pos) (LE X.K cA W tb)) :
    PE X (.BoolOp .And (a :: b :: rest) pos) (LE X.K cA W fun env h => (ta env h).bind fun v h1 => MP.ifB v h1 (tb env) fun h => .ret (.bl false) h) := by
  refine peI (pe_and ha hb) fun σ H Q q => (q.ifB.imp fun c H1 p => ?_).le.imp fun x H1 p => p
  exact (by
    cases c with
    | true => rw [if_pos rfl] at p; rw [if_pos rfl]; exact p
    | false => rw [if_neg Bool.false_ne_true] at p; rw [if_neg Bool.false_ne_true]; exact p.bl : if c = true then LE X.K cA W tb σ H1 Q else Q (.bl false) H1)
theorem pl_or {a b : Expr} {rest : List Expr} {ta tb : Env → Hq → Res PV} {pos : Pos} (ha : PE X a (LE X.K cA W ta)) (hb : PE X (.BoolOp .Or (b :: rest) pos) (LE X.K cA W tb)) :
    PE X (.BoolOp .Or (a :: b :: rest) pos) (LE X.K cA W fun env h => (ta env h).bind fun v h1 => MP.ifB v h1 (fun h => .ret (.bl true) h) (tb env)) := by
  refine peI (pe_or ha hb) fun σ H Q q => (q.ifB.imp fun c H1 p => ?_).le.imp fun x H1 p => p
  exact (by
    cases c with
    | true => rw [if_pos rfl] at p; rw [if_pos rfl]; exact p.bl
    | false => rw [if_neg Bool.false_ne_true] at p; rw [if_neg Bool.false_ne_true]; exact p : if c = true then Q (.bl true) H1 else LE X.K cA W tb σ H1 Q)
structure PWL (X : Cx) (e : Expr) (t : TT) : Prop where
  pw : PW X e t
theorem pwI {e : Expr} {t t' : TT} (h : PW X e t) (hi : ∀ σ H Q, t' σ H Q → t σ H Q) : PW X e t' := ⟨fun wh pins s σ H Q I q => h.run wh pins s σ H Q I (hi _ _ _ q)⟩
theorem pwl_and {a b : Expr} {rest : List Expr} {ta tb : Env → Hq → Res PV} {pos : Pos} (ha : PT X a (LT X.K cA W ta)) (hb : PW X (.BoolOp .And (b :: rest) pos) (LT X.K cA W tb)) :
    PW X (.BoolOp .And (a :: b :: rest) pos) (LT X.K cA W fun env h => (ta env h).bind fun v h1 => MP.ifB v h1 (tb env) fun h => .ret (.bl false) h) := by
  refine pwI (pw_and ha hb) fun σ H Q q => q.ifB.imp fun c H1 p => ?_
  cases c with
  | true => rw [if_pos rfl] at p; rw [if_pos rfl]; exact p
  | false => rw [if_neg Bool.false_ne_true] at p; rw [if_neg Bool.false_ne_true]; exact p.bl
theorem pwl_or {a b : Expr} {rest : List Expr} {ta tb : Env → Hq → Res PV} {pos : Pos} (ha : PT X a (LT X.K cA W ta)) (hb : PW X (.BoolOp .Or (b :: rest) pos) (LT X.K cA W tb)) :
    PW X (.BoolOp .Or (a :: b :: rest) pos) (LT X.K cA W fun env h => (ta env h).bind fun v h1 => MP.ifB v h1 (fun h => .ret (.bl true) h) (tb env)) := by
  refine pwI (pw_or ha hb) fun σ H Q q => q.ifB.imp fun c H1 p => ?_
  cases c with
  | true => rw [if_pos rfl] at p; rw [if_pos rfl]; exact p.bl
  | false => rw [if_neg Bool.false_ne_true] at p; rw [if_neg Bool.false_ne_true]; exact p
theorem pl_not {a : Expr} {ta : Env → Hq → Res PV} {pos : Pos} (ha : PE X a (LE X.K cA W ta)) : PE X (.UnaryOp .Not a pos) (LE X.K cA W fun env h => (ta env h).bind fun v h1 => notF v h1) := by
  refine peI (pe_not ha) fun σ H Q q => (LE.bind (f := fun v _ h1 => notF v h1) q).imp fun x H1 p => ?_
  obtain ⟨ρ, h, env, v, sim, se, r, hw⟩ := p
  cases v <;> try exact hw.elim
  rename_i c
  exact ⟨c, r.bl_inv, PostV.now hw sim (.bl _)⟩
theorem ptl_not {a : Expr} {ta : Env → Hq → Res PV} {pos : Pos} (ha : PT X a (LT X.K cA W ta)) : PT X (.UnaryOp .Not a pos) (LT X.K cA W fun env h => (ta env h).bind fun v h1 => notF v h1) := by
  refine ptI (pt_not ha) fun σ H Q q => ?_
  obtain ⟨ρ, h, env, sim, se, hw⟩ := q
  rw [Res.wp_bind] at hw
  refine ⟨ρ, h, env, sim, se, Res.wp_mono hw (fun v h1 hv => ?_) fun _ _ p => p⟩
  cases v <;> try exact hv.elim
  rename_i b
  obtain ⟨c, e, p⟩ := hv
  cases e
  exact ⟨b, rfl, p⟩
end
end MP

namespace MP
open PySem PySem.Spec PyProof.Rows L2
section
variable {X : Cx} {cA : Nat → Addr} {W : WX}
theorem chain_imp {K : PySem.W.Frag} {p q : Hq → PV → PV → Res PV} {ta tb tc : Env → Hq → Res PV} {σ : L2.St} {H : Hp} {Q : VK}
    (h : LE K cA W (fun env h => (ta env h).bind fun v h1 => (tb env h1).bind fun w h2 => (p h2 v w).bind fun x h3 => ifB x h3 (fun h3 => (tc env h3).bind fun u h4 => q h4 w u) fun h3 => .ret (.bl false) h3) σ H Q) :
    tChain (L2f K cA p) (L2f K cA q) (LE K cA W ta) (LE K cA W tb) (LE K cA W tc) σ H Q := by
  obtain ⟨ρ, h, env, sim, se, hw⟩ := h
  rw [Res.wp_bind] at hw
  refine ⟨ρ, h, env, sim, se, Res.wp_mono hw (fun v h1 hv ρ1 H1 u1 le1 sim1 r1 => ?_) fun c h1 hc => hc⟩
  rw [Res.wp_bind] at hv
  refine ⟨ρ1, h1, env, sim1, se.mono le1, Res.wp_mono hv (fun w h2 hw2 ρ2 H2 u2 le2 sim2 r2 => ?_) fun c h2 hc => hc.from le1⟩
  rw [Res.wp_bind] at hw2
  refine ⟨ρ2, h2, v, w, _, sim2, r1.mono le2, r2, Res.wp_mono hw2 (fun z h3 hz ρ3 H3 u3 le3 sim3 r3 => ?_) fun _ _ q => q⟩
  cases z <;> try exact hz.elim
  rename_i b
  refine ⟨b, r3.bl_inv, ?_⟩
  have l3 := le1.trans (le2.trans le3)
  cases b with
  | false =>
    rw [if_neg Bool.false_ne_true]
    exact hz ρ3 H3 _ l3 sim3 (.bl _)
  | true =>
    rw [if_pos rfl]
    have hz : ((tc env h3).bind fun u h4 => q h4 w u).wp _ _ := hz
    rw [Res.wp_bind] at hz
    refine ⟨ρ3, h3, env, sim3, se.mono l3, Res.wp_mono hz (fun u h4 hu ρ4 H4 x4 le4 sim4 r4 => ?_) fun c h4 hc => hc.from l3⟩
    exact ⟨ρ4, h4, w, u, _, sim4, r2.mono (le3.trans le4), r4, Res.wp_mono hu (fun z h5 p => p.from (l3.trans le4)) fun _ _ q => q⟩
theorem pl_chain {op op' : CmpOp} {p q : Hq → PV → PV → Res PV} {a b c : Expr} {ta tb tc : Env → Hq → Res PV} {pos : Pos} (ho : OpR X (compareOp op) (L2f X.K cA p)) (ho' : OpR X (compareOp op') (L2f X.K cA q)) (ha : PE X a (LE X.K cA W ta)) (hb : PE X b (LE X.K cA W tb)) (hc : PE X c (LE X.K cA W tc))
    (hm : lastMarks [op, op'] [b, c] = false) : PE X (.Compare a [op, op'] [b, c] pos) (LE X.K cA W fun env h => (ta env h).bind fun v h1 => (tb env h1).bind fun w h2 => (p h2 v w).bind fun x h3 => ifB x h3 (fun h3 => (tc env h3).bind fun u h4 => q h4 w u) fun h3 => .ret (.bl false) h3) :=
  peI (pe_chain ho ho' ha hb hc hm) fun _ _ _ h => chain_imp h
theorem ptl_chain {op op' : CmpOp} {p q : Hq → PV → PV → Res PV} {a b c : Expr} {ta tb tc : Env → Hq → Res PV} {pos : Pos} (ho : OpR X (compareOp op) (L2f X.K cA p)) (ho' : OpR X (compareOp op') (L2f X.K cA q)) (ha : PE X a (LE X.K cA W ta)) (hb : PE X b (LE X.K cA W tb)) (hc : PE X c (LE X.K cA W tc))
    (hm : lastMarks [op, op'] [b, c] = false) : PT X (.Compare a [op, op'] [b, c] pos) (LT X.K cA W fun env h => (ta env h).bind fun v h1 => (tb env h1).bind fun w h2 => (p h2 v w).bind fun x h3 => ifB x h3 (fun h3 => (tc env h3).bind fun u h4 => q h4 w u) fun h3 => .ret (.bl false) h3) :=
  ptI (pt_chain ho ho' ha hb hc hm) fun _ _ _ h => chain_imp h.le
/-! ### arguments -/
theorem pal_nil : PA X [] (LA X.K cA W fun _ h => .ret [] h) := by
  refine paI pa_nil fun σ H Q q => ?_
  obtain ⟨ρ, h, env, sim, se, hw⟩ := q
  exact hw ρ H [] Le.refl sim .nil
theorem pal_cons {e : Expr} {es : List Expr} {te : Env → Hq → Res PV} {t : Env → Hq → Res (List PV)} (ha : PE X e (LE X.K cA W te)) (hr : PA X es (LA X.K cA W t)) (hs : starEach (e :: es) X.env = (false, eval e X.env) :: starEach es X.env) :
    PA X (e :: es) (LA X.K cA W fun env h => (te env h).bind fun v h1 => (t env h1).bind fun vs h2 => .ret (v :: vs) h2) := by
  refine paI (pa_cons ha hr hs) fun σ H Q q => ?_
  obtain ⟨ρ, h, env, sim, se, hw⟩ := q
  rw [Res.wp_bind] at hw
  refine ⟨ρ, h, env, sim, se, Res.wp_mono hw (fun v h1 hv ρ1 H1 u1 le1 sim1 r1 => ?_) fun c h1 hc => hc⟩
  rw [Res.wp_bind] at hv
  refine ⟨ρ1, h1, env, sim1, se.mono le1, Res.wp_mono hv (fun vs h2 hw2 ρ2 H2 us2 le2 sim2 r2 => ?_) fun c h2 hc => hc.from le1⟩
  exact hw2 ρ2 H2 _ (le1.trans le2) sim2 (.cons (r1.mono le2) r2)
/-- from arguments to what follows them -/
theorem LE.args {K : PySem.W.Frag} {t : Env → Hq → Res (List PV)} {f : Hq → List PV → Res PV} {σ : L2.St} {H : Hp} {Q : VK} (q : LE K cA W (fun env h => (t env h).bind fun vs h1 => f h1 vs) σ H Q) :
    LA K cA W t σ H (fun us H1 => ∃ ρ h vs, Sim K cA ρ h H1 ∧ RepL K ρ h.n H1 vs us ∧ (f h vs).wp (PostV K cA ρ h H1 Q) (PostX K cA ρ h H1 W σ)) := by
  obtain ⟨ρ, h, env, sim, se, hw⟩ := q
  rw [Res.wp_bind] at hw
  refine ⟨ρ, h, env, sim, se, Res.wp_mono hw (fun vs h1 hv ρ1 H1 us le1 sim1 r1 => ⟨ρ1, h1, vs, sim1, r1, Res.wp_mono hv (fun z h3 p => p.from le1) fun c h3 p => p.from le1⟩) fun c h1 hc => hc⟩
theorem LA.imp {K : PySem.W.Frag} {t : Env → Hq → Res (List PV)} {σ : L2.St} {H : Hp} {Q Q' : List V → Hp → Prop} (q : LA K cA W t σ H Q) (hi : ∀ x H, Q x H → Q' x H) : LA K cA W t σ H Q' := by
  obtain ⟨ρ, h, env, sim, se, hw⟩ := q
  exact ⟨ρ, h, env, sim, se, Res.wp_mono hw (fun v h1 p ρ' H' u l s r => hi _ _ (p ρ' H' u l s r)) fun _ _ p => p⟩
def tupF (h : Hq) (vs : List PV) : Res PV := okIf (le' vs.length SL) (.ret (.tup vs) h)
def lstF (h : Hq) (vs : List PV) : Res PV := okIf (le' vs.length SL) (newLst h vs)
theorem okIf_wpE {b : Bool} {t : Res PV} {P : PV → Hq → Prop} {E : Nat → Hq → Prop} (h : (okIf b t).wp P E) : b = true ∧ t.wp P E := okIf_wp h
theorem pl_tup {es : List Expr} {t : Env → Hq → Res (List PV)} {k : Nat} {pos : Pos} (h : PA X es (LA X.K cA W t)) : PE X (.Tuple es k pos) (LE X.K cA W fun env h => (t env h).bind fun vs h1 => tupF h1 vs) := by
  refine peI (pe_tup h) fun σ H Q q => q.args.imp fun us H1 p => ?_
  obtain ⟨ρ, h, vs, sim, r, hw⟩ := p
  obtain ⟨hl, hw⟩ := okIf_wp hw
  exact ⟨by rw [← r.length]; exact le_of hl, fun p hp => PostV.tup hw sim r hp⟩
theorem pl_lst {es : List Expr} {t : Env → Hq → Res (List PV)} {pos : Pos} (h : PA X es (LA X.K cA W t)) : PE X (.List es pos) (LE X.K cA W fun env h => (t env h).bind fun vs h1 => lstF h1 vs) := by
  refine peI (pe_lst h) fun σ H Q q => q.args.imp fun us H1 p => ?_
  obtain ⟨ρ, h, vs, sim, r, hw⟩ := p
  obtain ⟨hl, hw⟩ := okIf_wp hw
  exact ⟨by rw [← r.length]; exact le_of hl, fun p hp => PostV.lst hw sim r hp⟩
theorem pl_dnew {pos : Pos} : PE X (.Dict [] [] pos) (LE X.K cA W fun _ h => .ret (.ref h.n) (h.push (.dk []))) := by
  refine peI pe_dnewK fun σ H Q q => ?_
  obtain ⟨ρ, h, env, sim, se, hw⟩ := q
  intro p hp
  exact hw (extR ρ h.n p) _ _ (le_new hp) (sim.push hp ⟨[], upd_same, .nil⟩) (.ref (Nat.lt_succ_self _) (extR_self ..).symm)
/-! ### calls -/
def spF (K : PySem.W.Frag) (cA : Nat → Addr) (call : Hq → List PV → Res PV) (np : Nat) : Sp := fun vs H Q E => vs.length = np ∧ ∃ ρ h args, Sim K cA ρ h H ∧ RepL K ρ h.n H args vs ∧
  (call h args).wp (PostV K cA ρ h H Q) (fun c h' => ∀ ρ' H', Le K ρ h.n H ρ' h'.n H' → Sim K cA ρ' h' H' → E (.ref (cA c)) none H')
theorem pl_call {f : Addr} {fd : FuncData} {ps : List Str} {x : Str} {k : Nat} {e : Expr} {es : List Expr} {p pos : Pos} {t : Env → Hq → Res (List PV)} {call : Hq → List PV → Res PV} (F : FnOk X.prog X.w X.K X.mg X.base (L2.CX X.prog X.w) k f fd ps (spF X.K cA call ps.length)) (hr : Room k X.A) (hg : Gl X x) (hm : X.mg x = some (.ref f)) (hk : PySem.W.keepIn X.K (.ref f) = true) (hb : Binds X.K fd ps [])
    (tk : Takes X W) (hlen : (e :: es).length = ps.length) (ha : PA X (e :: es) (LA X.K cA W t)) (hl : ∀ env h vs h1, t env h = .ret vs h1 → vs.length = ps.length) (hdb : (x == ("__debug__" : Str)) = false) (he : starEach (e :: es) X.env = (false, eval e X.env) :: starEach es X.env) (hpl : (backTo pos (starEach es X.env)).any (·.1) = false) :
    PE X (.Call (.Name x p) (e :: es) [] pos) (LE X.K cA W fun env h => (t env h).bind fun vs h1 => call h1 vs) := by
  refine peI (pe_callS F hr hg hm hk hb (fun σ => passAt tk σ) ha hdb he hpl) fun σ H Q q => ?_
  obtain ⟨ρ, h, env, sim, se, hw⟩ := q
  refine ⟨ρ, h, env, sim, se, ?_⟩
  simp only [Res.wp_bind] at hw
  cases e1 : t env h with
  | ret vs h1 =>
    rw [e1] at hw
    intro ρ1 H1 us le1 sim1 r1
    refine ⟨by rw [← r1.length]; exact hl _ _ _ _ e1, ρ1, h1, vs, sim1, r1, Res.wp_mono hw (fun z h3 p => PostV.from le1 p) fun c h3 p => ?_⟩
    exact fun ρ' H' l s => p ρ' H' (le1.trans l) s
  | exc c h1 => rw [e1] at hw; exact hw
  | fail => rw [e1] at hw; exact hw
theorem pl_bi {id : String} {x : Str} {f : Hq → List PV → Res PV} {e : Expr} {es : List Expr} {p pos : Pos} {t : Env → Hq → Res (List PV)} (hc : CallR X (.builtin id) (Lsf X.K cA f)) (hg : Gl X x) (hm : X.mg x = none) (hv : bootBuiltins x = some (.builtin id)) (ha : PA X (e :: es) (LA X.K cA W t)) (hn : x ≠ "__name__") (hdb : (x == ("__debug__" : Str)) = false)
    (he : starEach (e :: es) X.env = (false, eval e X.env) :: starEach es X.env) (hpl : (backTo pos (starEach es X.env)).any (·.1) = false) : PE X (.Call (.Name x p) (e :: es) [] pos) (LE X.K cA W fun env h => (t env h).bind fun vs h1 => f h1 vs) :=
  peI (pe_callB hc hg hm hv ha hn hdb he hpl) fun σ H Q q => q.args.imp fun us H1 ⟨ρ, h, vs, sim, r, hw⟩ => ⟨ρ, h, vs, _, sim, r, hw⟩
theorem pl_biT {T : String} {x : Str} {f : Hq → List PV → Res PV} {e : Expr} {es : List Expr} {p pos : Pos} {t : Env → Hq → Res (List PV)} (hc : CallR X (.type T) (Lsf X.K cA f)) (hg : Gl X x) (hm : X.mg x = none) (hv : bootBuiltins x = some (.type T)) (ha : PA X (e :: es) (LA X.K cA W t)) (hn : x ≠ "__name__") (hdb : (x == ("__debug__" : Str)) = false)
    (he : starEach (e :: es) X.env = (false, eval e X.env) :: starEach es X.env) (hpl : (backTo pos (starEach es X.env)).any (·.1) = false) : PE X (.Call (.Name x p) (e :: es) [] pos) (LE X.K cA W fun env h => (t env h).bind fun vs h1 => f h1 vs) :=
  peI (pe_callTy hc hg hm hv ha hn hdb he hpl) fun σ H Q q => q.args.imp fun us H1 ⟨ρ, h, vs, sim, r, hw⟩ => ⟨ρ, h, vs, _, sim, r, hw⟩
theorem pl_isin {isa : Nat → Nat → Bool} {a : Expr} {ty : Ty} {ta : Env → Hq → Res PV} {p p2 pos : Pos} {x : Str} (ht : tyB ty = true) (hg : Gl X "isinstance") (hm : X.mg "isinstance" = none) (hx : Gl X x) (hmx : X.mg x = none) (hvx : bootBuiltins x = some (.type (tyN ty))) (hnx : x ≠ "__name__") (hdx : (x == ("__debug__" : Str)) = false) (ha : PE X a (LE X.K cA W ta))
    (he : starEach [a, .Name x p2] X.env = (false, eval a X.env) :: starEach [.Name x p2] X.env) (hpl : (backTo pos (starEach [.Name x p2] X.env)).any (·.1) = false) :
    PE X (.Call (.Name "isinstance" p) [a, .Name x p2] [] pos) (LE X.K cA W fun env h => (ta env h).bind fun v h1 => ofB h1 (isinS isa h1 v ty)) := by
  refine peI (pe_callB (cr_isin (cA := cA) (isa := isa) ht) hg hm (by decide +kernel) (pa_cons ha (pa_cons (pe_bltn hx hmx hvx (v := .ty (tyN ty)) rfl hnx hdx) pa_nil (by rfl)) he) (by decide) (by decide) he hpl) fun σ H Q q => ?_
  refine (LE.bind (f := fun v _ h1 => ofB h1 (isinS isa h1 v ty)) q).imp fun x H1 p => ?_
  obtain ⟨ρ, h, env, v, sim, se, r, hw⟩ := p
  exact ⟨ρ, h, v, x, _, rfl, sim, r, hw⟩
/-! ### subscripts -/
theorem pl_idx {a b : Expr} {ta tb : Env → Hq → Res PV} {pos : Pos} (hu : X.A.units + 65 < cLine) (ha : PE X a (LE X.K cA W ta)) (hb : PE X b (LE X.K cA W tb)) (hs : PlainIx b) : PE X (.Subscript a b pos) (LE X.K cA W fun env h => (ta env h).bind fun v h1 => (tb env h1).bind fun w h2 => idxS h2 v w) :=
  peI (pe_ix (ix_S hu) ha hb hs) fun _ _ _ q => q.bind2
/-- a part of a slice: left out, or an expression that gives an int -/
def LO' (K : PySem.W.Frag) (cA : Nat → Addr) (W : WX) (t : Env → Hq → Res PV) (pt : PV → Option (Option Int)) : TO := fun σ H Q => ∃ ρ h env, Sim K cA ρ h H ∧ SimE K ρ h.n H env σ ∧
  (t env h).wp (fun v h' => ∀ o, pt v = some o → ∀ ρ' H', Le K ρ h.n H ρ' h'.n H' → Sim K cA ρ' h' H' → Q o H') (PostX K cA ρ h H W σ) ∧ (t env h).wp (fun v _ => ∃ o, pt v = some o) (fun _ _ => True)
theorem wp_and {α : Type} {t : Res α} {P P' : α → Hq → Prop} {E E' : Nat → Hq → Prop} (a : t.wp P E) (b : t.wp P' E') : t.wp (fun x h => P x h ∧ P' x h) (fun c h => E c h ∧ E' c h) := by
  cases t with
  | ret v h => exact ⟨a, b⟩
  | exc c h => exact ⟨a, b⟩
  | fail => exact a
theorem pol_none : PO X none (LO' X.K cA W (fun _ h => .ret .non h) fun _ => some none) := by
  refine ⟨fun pins s σ H Q I q => po_none.run pins s σ H Q I ?_⟩
  obtain ⟨ρ, h, env, sim, se, hw, _⟩ := q
  exact hw none rfl ρ H Le.refl sim
theorem pol_some {e : Expr} {t : Env → Hq → Res PV} (h : PE X e (LE X.K cA W t)) : PO X (some e) (LO' X.K cA W t fun v => match v with | .int i => some (some i) | _ => none) := by
  refine ⟨fun pins s σ H Q I q => (po_some h).run pins s σ H Q I ?_⟩
  obtain ⟨ρ, h, env, sim, se, hw, hw2⟩ := q
  refine ⟨ρ, h, env, sim, se, Res.wp_mono (wp_and hw hw2) (fun v h1 ⟨p, o, e⟩ ρ1 H1 u1 le1 sim1 r1 => ?_) fun _ _ p => p.1⟩
  cases v with
  | int i => cases e; exact ⟨_, r1.int_inv, p _ rfl ρ1 H1 le1 sim1⟩
  | _ => exact absurd e (by simp)
theorem pl_slice {a : Expr} {lo hi : Option Expr} {ta tl th : Env → Hq → Res PV} {pl ph : PV → Option (Option Int)} {p2 pos : Pos} (ha : PE X a (LE X.K cA W ta)) (hl : PO X lo (LO' X.K cA W tl pl)) (hh : PO X hi (LO' X.K cA W th ph)) :
    PE X (.Subscript a (.Slice lo hi none p2) pos) (LE X.K cA W fun env h => (ta env h).bind fun v h1 => (tl env h1).bind fun l h2 => optF (pl l) fun l' => (th env h2).bind fun u h3 => optF (ph u) fun u' => sliceS h3 v l' u') := by
  refine peI (pe_slice (sl_S (cA := cA)) ha hl hh) fun σ H Q q => ?_
  obtain ⟨ρ, h, env, sim, se, hw⟩ := q
  simp only [Res.wp_bind] at hw
  refine ⟨ρ, h, env, sim, se, Res.wp_mono hw (fun v h1 hv ρ1 H1 u1 le1 sim1 r1 => ?_) fun c h1 hc => hc⟩
  have op : ∀ {o : Option (Option Int)} {k : Option Int → Res PV} {P : PV → Hq → Prop} {E : Nat → Hq → Prop}, (optF o k).wp P E → ∃ z, o = some z ∧ (k z).wp P E := by
    intro o k P E q
    cases o with
    | none => exact q.elim
    | some z => exact ⟨z, rfl, q⟩
  refine ⟨ρ1, h1, env, sim1, se.mono le1, Res.wp_mono hv (fun l h2 hl2 ol el ρ2 H2 le2 sim2 => ?_) (fun c h2 hc => hc.from le1), Res.wp_mono hv (fun l h2 hl2 => let ⟨z, e, _⟩ := op hl2; ⟨z, e⟩) fun _ _ _ => trivial⟩
  obtain ⟨z, e, hz⟩ := op hl2
  rw [el] at e
  cases e
  rw [Res.wp_bind] at hz
  have l2 := le1.trans le2
  refine ⟨ρ2, h2, env, sim2, se.mono l2, Res.wp_mono hz (fun u h3 hu ou eu ρ3 H3 le3 sim3 => ?_) (fun c h3 hc => hc.from l2), Res.wp_mono hz (fun u h3 hu => let ⟨z, e, _⟩ := op hu; ⟨z, e⟩) fun _ _ _ => trivial⟩
  obtain ⟨y, e, hy⟩ := op hu
  rw [eu] at e
  cases e
  exact ⟨ρ3, h3, v, _, sim3, r1.mono (le2.trans le3), Res.wp_mono hy (fun z h5 p => PostV.from (l2.trans le3) p) fun _ _ q => q⟩
theorem pl_rev {a : Expr} {ta : Env → Hq → Res PV} {k : Nat} {p1 p2 p3 pos : Pos} (ha : PE X a (LE X.K cA W ta)) :
    PE X (.Subscript a (.Slice none none (some (.UnaryOp .USub (.Constant (.int 1) k p1) p2)) p3) pos) (LE X.K cA W fun env h => (ta env h).bind fun v h1 => revS h1 v) := by
  refine peI (pe_revL ha) fun σ H Q q => (LE.bind (f := fun v _ h1 => revS h1 v) q).imp fun x H1 p => ?_
  obtain ⟨ρ, h, env, v, sim, se, r, hw⟩ := p
  cases v <;> try exact hw.elim
  obtain rfl := r.ref_inv
  simp only [revS] at hw
  split at hw
  · rename_i xs g
    obtain ⟨vs, t, rl⟩ := sim.getL g
    exact ⟨_, vs, rfl, t, fun p hp => PostV.lst hw sim rl.reverse hp⟩
  · exact hw.elim
end
end MP

namespace MP
open PySem PySem.Spec PyProof.Rows L2
section
variable {X : Cx} {cA : Nat → Addr} {W : WX}
/-! ### methods -/
def mtT : Mt → String
  | .append => "list"
  | .pop => "list"
  | .indexL => "list"
  | .countL => "list"
  | .remove => "list"
  | .indexS => "str"
  | .join => "str"
  | .split => "str"
  | .get => "dict"
  | .setdefault => "dict"
theorem tyM_tyV {K : PySem.W.Frag} {ρ : Nat → Addr} {h : Hq} {H : Hp} {m : Mt} {v : PV} {x : V} (sim : Sim K cA ρ h H) (r : Rep K ρ h.n H v x) (hm : tyM m h v = true) : tyV K (mtT m) x H := by
  have lst : isLst h v = true → tyV K "list" x H := by
    intro hs
    cases v <;> try cases hs
    obtain rfl := r.ref_inv
    obtain ⟨xs, g⟩ := Option.isSome_iff_exists.mp hs
    obtain ⟨vs, t, rl⟩ := sim.getL g
    exact .inl ⟨rfl, vs, t⟩
  have st : isStr v = true → tyV K "str" x H := by
    intro hs
    cases v <;> try cases hs
    cases r
    exact rfl
  have dk : isDk h v = true → tyV K "dict" x H := by
    intro hs
    cases v <;> try cases hs
    rename_i q
    have hs : (match h.get q with | some (.dk _) => true | _ => false) = true := hs
    split at hs
    · rename_i kvs g
      obtain rfl := r.ref_inv
      obtain ⟨kw, hk, _⟩ := sim.obj _ _ g
      exact .inr (.inr (.inl ⟨rfl, .inl ⟨kw, hk⟩⟩))
    · cases hs
  cases m
  · exact lst hm
  · exact lst hm
  · exact lst hm
  · exact st hm
  · exact st hm
  · exact st hm
  · exact lst hm
  · exact dk hm
  · cases hm
  · exact lst hm
theorem mtF_wp {m : Mt} {h : Hq} {v : PV} {k : Res PV} {P : PV → Hq → Prop} {E : Nat → Hq → Prop} (q : (mtF m h v k).wp P E) : tyM m h v = true ∧ k.wp P E := by
  unfold mtF at q
  by_cases e : tyM m h v = true
  · rw [if_pos e] at q; exact ⟨e, q⟩
  · rw [if_neg e] at q; exact q.elim
theorem pl_mt {m : Mt} {id : String} {name : Str} {f : Hq → PV → List PV → Res PV} {o e : Expr} {es : List Expr} {to : Env → Hq → Res PV} {t : Env → Hq → Res (List PV)} {apos cpos : Pos} (pa : PlainAttrs (mtT m)) (slot : Slot (mtT m) name id) (hty : typeOf (.builtin id) = pure (.type "method_descriptor")) (hm : MtR X id (Lmf X.K cA f)) (ho : PE X o (LE X.K cA W to)) (ha : PA X (e :: es) (LA X.K cA W t))
    (hbase : attributeBase o name X.env (eval o X.env) = eval o X.env)
    (hfew : ((backTo cpos (starEach (e :: es) X.env)).all (fun x => !x.1) && (backToKw cpos (keywordEach [] X.env)).all (fun x => x.1.isSome)
      && decide ((e :: es).length + ([] : List Keyword).length + (if ([] : List Keyword).isEmpty then 0 else 1) < 30)) = true)
    (hline : (apos.endLine == cpos.line) = true) (hs : starEach (e :: es) X.env = (false, eval e X.env) :: starEach es X.env) (hplain : (backTo cpos (starEach es X.env)).any (·.1) = false) :
    PE X (.Call (.Attribute o name apos) (e :: es) [] cpos) (LE X.K cA W fun env h => (to env h).bind fun v h1 => mtF m h1 v ((t env h1).bind fun vs h2 => f h2 v vs)) := by
  refine peI (pe_bm pa slot hty hm ho ha hbase hfew hline hs hplain) fun σ H Q q => ?_
  obtain ⟨ρ, h, env, sim, se, hw⟩ := q
  rw [Res.wp_bind] at hw
  refine ⟨ρ, h, env, sim, se, Res.wp_mono hw (fun v h1 hv ρ1 H1 u1 le1 sim1 r1 => ?_) fun c h1 hc => hc⟩
  obtain ⟨ht, hv⟩ := mtF_wp hv
  refine ⟨tyM_tyV sim1 r1 ht, ?_⟩
  rw [Res.wp_bind] at hv
  refine ⟨ρ1, h1, env, sim1, se.mono le1, Res.wp_mono hv (fun vs h2 hv2 ρ2 H2 us le2 sim2 r2 => ?_) fun c h2 hc => hc.from le1⟩
  exact ⟨ρ2, h2, v, vs, _, sim2, r1.mono le2, r2, Res.wp_mono hv2 (fun z h3 p => p.from (le1.trans le2)) fun _ _ q => q⟩
theorem pl_mt0 {m : Mt} {id : String} {name : Str} {f : Hq → PV → List PV → Res PV} {o : Expr} {to : Env → Hq → Res PV} {apos cpos : Pos} (pa : PlainAttrs (mtT m)) (slot : Slot (mtT m) name id) (hty : typeOf (.builtin id) = pure (.type "method_descriptor")) (hm : MtR X id (Lmf X.K cA f)) (ho : PE X o (LE X.K cA W to))
    (hbase : attributeBase o name X.env (eval o X.env) = eval o X.env) (hline : (apos.endLine == cpos.line) = true) :
    PE X (.Call (.Attribute o name apos) [] [] cpos) (LE X.K cA W fun env h => (to env h).bind fun v h1 => mtF m h1 v (f h1 v [])) := by
  refine peI (pe_bm0 pa slot hty hm ho hbase hline) fun σ H Q q => ?_
  obtain ⟨ρ, h, env, sim, se, hw⟩ := q
  rw [Res.wp_bind] at hw
  refine ⟨ρ, h, env, sim, se, Res.wp_mono hw (fun v h1 hv ρ1 H1 u1 le1 sim1 r1 => ?_) fun c h1 hc => hc⟩
  obtain ⟨ht, hv⟩ := mtF_wp hv
  exact ⟨tyM_tyV sim1 r1 ht, ρ1, h1, v, [], _, sim1, r1, .nil, Res.wp_mono hv (fun z h3 p => p.from le1) fun _ _ q => q⟩
/-! ### targets -/
mutual
/-- the reading of a target -/
def tgG (K : PySem.W.Frag) : Tg → TG
  | .name i => gName i
  | .tup ts => gTup K ts.length (tgGs K ts)
def tgGs (K : PySem.W.Frag) : List Tg → TGs
  | [] => gNil
  | t :: ts => gCons (tgG K t) (tgGs K ts)
end
mutual
def slots : Tg → List Nat
  | .name i => [i]
  | .tup ts => slotss ts
def slotss : List Tg → List Nat
  | [] => []
  | t :: ts => slots t ++ slotss ts
end
mutual
theorem tgG_ok {K : PySem.W.Frag} {ρ : Nat → Addr} {n : Nat} {H : Hp} {Q : L2.St → Hp → Prop} : ∀ (t : Tg) (v : PV) (u : V) (env env' : Env) (σ : L2.St), Rep K ρ n H v u → SimE K ρ n H env σ → MP.asgT t v env = some env' →
    (∀ σ', SimE K ρ n H env' σ' → σ'.length = σ.length → (∀ j, j ∉ slots t → σ'[j]? = σ[j]?) → Q σ' H) → tgG K t u σ H Q
  | .name i, v, u, env, env', σ, r, se, e, q => by
    cases e
    refine q _ (se.set i r) (List.length_set ..) fun j hj => ?_
    exact List.getElem?_set_ne (fun z => hj (by rw [z]; exact List.mem_singleton.mpr rfl))
  | .tup ts, v, u, env, env', σ, r, se, e, q => by
    cases v <;> try cases e
    rename_i vs
    cases r with
    | tup ht rl =>
      have e : asgTs ts vs env = some env' := e
      have hlen : ∀ (ts : List Tg) (vs : List PV) (env : Env), asgTs ts vs env = some env' → vs.length = ts.length := by
        intro ts
        induction ts with
        | nil => intro vs env e; cases vs with | nil => rfl | cons _ _ => cases e
        | cons t ts ih =>
          intro vs env e
          cases vs with
          | nil => cases e
          | cons v vs =>
            unfold asgTs at e
            split at e
            · rw [List.length_cons, List.length_cons, ih _ _ e]
            · cases e
      exact ⟨_, _, rfl, ht, by rw [← rl.length, hlen _ _ _ e], tgGs_ok ts vs _ env env' σ rl se e q⟩
theorem tgGs_ok {K : PySem.W.Frag} {ρ : Nat → Addr} {n : Nat} {H : Hp} {Q : L2.St → Hp → Prop} : ∀ (ts : List Tg) (vs : List PV) (us : List V) (env env' : Env) (σ : L2.St), RepL K ρ n H vs us → SimE K ρ n H env σ → asgTs ts vs env = some env' →
    (∀ σ', SimE K ρ n H env' σ' → σ'.length = σ.length → (∀ j, j ∉ slotss ts → σ'[j]? = σ[j]?) → Q σ' H) → tgGs K ts us σ H Q
  | [], vs, us, env, env', σ, r, se, e, q => by
    cases vs with
    | nil => cases r; cases e; exact ⟨rfl, q _ se rfl fun _ _ => rfl⟩
    | cons _ _ => cases e
  | t :: ts, vs, us, env, env', σ, r, se, e, q => by
    cases vs with
    | nil => cases e
    | cons v vs =>
      cases r with
      | cons r rr =>
        unfold asgTs at e
        split at e
        · rename_i env1 e1
          refine ⟨_, _, rfl, tgG_ok t v _ env env1 σ r se e1 fun σ1 se1 l1 k1 => ?_⟩
          refine tgGs_ok ts vs _ env1 env' σ1 rr se1 e fun σ2 se2 l2 k2 => q σ2 se2 (l2.trans l1) fun j hj => ?_
          have hj : j ∉ slots t ++ slotss ts := hj
          rw [k2 j fun z => hj (List.mem_append_right _ z), k1 j fun z => hj (List.mem_append_left _ z)]
        · cases e
end
theorem pgl_name {i : Nat} {x : Str} {pos : Pos} (hN : X.N.Nodup) (hi : X.N[i]? = some x) (hx : Loc X.env.scope x) (hf : X.fn x = true ∨ X.env.scope.names.lookup x = some .local) : PG X (.Name x pos) (tgG X.K (.name i)) := pg_name hN hi hx hf
theorem pgsl_nil : PGs X [] (tgGs X.K []) := pgs_nil
theorem pgsl_cons {e : Expr} {es : List Expr} {t : Tg} {ts : List Tg} (h1 : PG X e (tgG X.K t)) (h2 : PGs X es (tgGs X.K ts)) (hs : (assignEach (e :: es) X.env).map (·.2) = assign e X.env :: (assignEach es X.env).map (·.2)) : PGs X (e :: es) (tgGs X.K (t :: ts)) := pgs_cons h1 h2 hs
theorem pgl_tup {es : List Expr} {k : Nat} {ts : List Tg} {pos : Pos} (hc : X.calm = true) (h : PGs X es (tgGs X.K ts)) (hn : (assignEach es X.env).length = ts.length) (hst : (assignEach es X.env).findIdx? (·.1) = none) : PG X (.Tuple es k pos) (tgG X.K (.tup ts)) := pg_tup hc h hn hst
/-- slots wiped hide what lies in them -/
theorem wipe_get : ∀ (vs : List Nat) (σ : L2.St) (j : Nat), (L2.wipe σ vs)[j]? = if j ∈ vs then (σ[j]?).map fun _ => none else σ[j]?
  | [], σ, j => by simp [L2.wipe]
  | v :: vs, σ, j => by
    unfold L2.wipe
    by_cases e : v = j
    · subst e
      rw [if_pos (List.mem_cons_self ..)]
      by_cases hl : v < σ.length
      · rw [List.getElem?_set_self (by rw [wipe_length]; exact hl), List.getElem?_eq_getElem hl]
        rfl
      · rw [List.getElem?_eq_none (by rw [List.length_set, wipe_length]; omega), List.getElem?_eq_none (by omega)]
        rfl
    · rw [List.getElem?_set_ne e, wipe_get vs σ j]
      by_cases m : j ∈ vs
      · rw [if_pos m, if_pos (List.mem_cons_of_mem _ m)]
      · rw [if_neg m, if_neg (fun z => (List.mem_cons.mp z).elim (fun z => e z.symm) m)]
theorem wipe_same {σ σ' : L2.St} {vs : List Nat} (hl : σ'.length = σ.length) (h : ∀ j, j ∉ vs → σ'[j]? = σ[j]?) : L2.wipe σ' vs = L2.wipe σ vs := by
  apply List.ext_getElem?
  intro j
  rw [wipe_get, wipe_get]
  by_cases m : j ∈ vs
  · rw [if_pos m, if_pos m]
    by_cases hj : j < σ.length
    · rw [List.getElem?_eq_getElem hj, List.getElem?_eq_getElem (by rw [hl]; exact hj)]; rfl
    · rw [List.getElem?_eq_none (by omega), List.getElem?_eq_none (by omega)]
  · rw [if_neg m, if_neg m, h j m]
theorem wipe_wipe {σ : L2.St} {vs : List Nat} : L2.wipe (L2.wipe σ vs) vs = L2.wipe σ vs := by
  refine wipe_same (wipe_length _ _) fun j hj => ?_
  rw [wipe_get, if_neg hj]
end
end MP

namespace MP
open PySem PySem.Spec PyProof.Rows L2
/-! ### what is walked: a list, a tuple, a text -/
inductive At where
  | ls (a : Addr)
  | tu (a : Addr)
  | tx (x : Str) (t : Tok)
def chars (x : Str) : List V := x.cps.toList.map fun c => V.str ⟨#[c]⟩
def At.has (K : PySem.W.Frag) (H : Hp) : At → List V → Prop
  | .ls a, vs => SqL K H a vs
  | .tu a, vs => SqT K H a vs
  | .tx x _, vs => vs = chars x
def At.tn (it : Addr) (i : Nat) (h : Heap) : At → Prop
  | .ls a => h.IsListIter it a i
  | .tu a => h.IsTupleIter it a i
  | .tx x t => h.IsStrIter it (strIterType x) x t i
def At.val : At → Value
  | .ls a => .ref a
  | .tu a => .ref a
  | .tx x t => .str x t
def At.ob : At → Obj
  | .ls a => { cls := .type "list_iterator", data := .fields #[.ref a, .int 0 0] }
  | .tu a => { cls := .type "tuple_iterator", data := .fields #[.ref a, .int 0 0] }
  | .tx x t => { cls := .type (strIterType x), data := .fields #[.str x t, .int 0 0] }
def At.J (K : PySem.W.Frag) : At → It
  | .ls a => Itl K a
  | .tu a => Itt K a
  | .tx x _ => Its x
section
variable {X : Cx} {pins : List (Addr × Obj)} {σ : L2.St} {H : Hp} {s : Shared}
theorem At.inj {a : At} {vs ws : List V} (I : Inv X pins σ H s) (h : a.has X.K H vs) (h' : a.has X.K H ws) : vs = ws := by
  cases a with
  | ls a => exact I.list_inj h h'
  | tu a => exact I.tuple_inj h h'
  | tx x t => exact h.trans h'.symm
theorem At.obj {a : At} {it : Addr} {i : Nat} {h : Heap} (t : a.tn it i h) : ∃ o, h.get? it = some o ∧ ∀ v, o.data ≠ .cell v := by
  cases a <;> obtain ⟨o, ho, hc, hd⟩ := t <;> exact ⟨o, ho, fun v q => by rw [hd] at q; cases q⟩
theorem At.lt {a : At} {it : Addr} {i : Nat} {h : Heap} (t : a.tn it i h) : it < h.objs.size := by
  obtain ⟨o, ho, _⟩ := At.obj t
  exact Heap.lt_size ho
theorem At.keep {a : At} {it : Addr} {i : Nat} {h h' : Heap} (t : a.tn it i h) (k : ∀ o, h.get? it = some o → h'.get? it = some o) : a.tn it i h' := by
  cases a <;> exact let ⟨o, ho, r⟩ := t; ⟨o, k o ho, r⟩
theorem At.ob_tn {a : At} {it : Addr} {h : Heap} (e : h.get? it = some a.ob) : a.tn it 0 h := by
  cases a <;> exact ⟨_, e, rfl, rfl⟩
theorem kfar {p b : Addr} {o : Obj} (I : Inv X pins σ H s) (hk : X.K.lookup p = some o) (hb : FpOk X pins H b) : p ≠ b := by
  have q := I.ok.mod.kin p o hk
  intro e
  subst e
  rcases hb.2.2.2.1 with z | z
  · exact I.ok.noex p o q z
  · exact absurd (Nat.lt_of_lt_of_le (Heap.lt_size q) I.ok.bsz) (Nat.not_lt.mpr z)
theorem hfar {p b : Addr} {u : HO} (h : H p = some u) (hb : FpOk X pins H b) : p ≠ b := by
  intro e
  subst e
  rw [hb.1] at h
  cases h
theorem sqlFar {p b : Addr} {vs : List V} (I : Inv X pins σ H s) (h : SqL X.K H p vs) (hb : FpOk X pins H b) : p ≠ b := by
  rcases h with (h | ⟨o, h⟩) | ⟨o, its, n, hk, _⟩
  · exact hfar h hb
  · exact hfar h hb
  · exact kfar I hk hb
theorem sqtFar {p b : Addr} {vs : List V} (I : Inv X pins σ H s) (h : SqT X.K H p vs) (hb : FpOk X pins H b) : p ≠ b := by
  rcases h with (h | ⟨o, h⟩) | ⟨o, its, n, hk, _⟩
  · exact hfar h hb
  · exact hfar h hb
  · exact kfar I hk hb
theorem chars_get {x : Str} {j c : Nat} (e : x.cps[j]? = some c) : (chars x)[j]? = some (V.str ⟨#[c]⟩) := by
  unfold chars
  rw [List.getElem?_map, Array.getElem?_toList, e]
  rfl
theorem vals_back {vs : List V} {its : List Value} (r : Vals vs its) : ∀ {j : Nat} {v : Value}, its[j]? = some v → ∃ x, vs[j]? = some x ∧ RelV x v := by
  induction vs generalizing its with
  | nil => intro j v e; cases r; simp at e
  | cons y ys ih =>
    intro j v e
    cases r with
    | cons a b =>
      cases j with
      | zero => simp at e; subst e; exact ⟨y, rfl, a⟩
      | succ j => exact ih b (by simpa using e)
theorem At.begins {a : At} {vs : List V} (I : Inv X pins σ H s) (hv : a.has X.K H vs) : ∃ G : Heap → Prop, Begins a.val a.ob G ∧ G s.heap := by
  cases a with
  | ls a =>
    obtain ⟨its, rv, p, hz⟩ := I.list hv
    exact ⟨_, begins_list a its.toArray, p.isList⟩
  | tu a =>
    obtain ⟨its, rv, p, hz⟩ := I.tuple hv
    exact ⟨_, begins_tuple a its.toArray, p⟩
  | tx x t => exact ⟨_, begins_text x t, trivial⟩
theorem At.draws {a : At} {vs : List V} {A : Around} {it : Addr} {i : Nat} (I : Inv X pins σ H s) (hv : a.has X.K H vs) (hh : A.handled = none) (ht : a.tn it i s.heap) (hit : FpOk X pins H it) :
    ∃ (ext : List Addr) (P : Nat → Value → Prop) (St : Nat → Heap → Prop), Draws X.prog X.w A it (it :: ext) vs.length P St ∧ (∀ j v, P j v → ∃ x, vs[j]? = some x ∧ RelV x v) ∧ St i s.heap ∧ (∀ j h, St j h → a.tn it j h) ∧ ∀ b c, b ∈ ext → FpOk X pins H c → b ≠ c := by
  cases a with
  | ls a =>
    obtain ⟨its, rv, p, hz⟩ := I.list hv
    have hl := rv.length
    refine ⟨[a], fun j v => its.toArray[j]? = some v, fun j h => h.IsListIter it a j ∧ h.IsList a its.toArray, by have := Draws.list (prog := X.prog) (w := X.w) hh it a (sqlFar I hv hit) its.toArray; rw [List.size_toArray, ← hl] at this; exact this, fun j v e => ?_, ⟨ht, p.isList⟩, fun j h z => z.1, fun b c hb hc => by rw [List.mem_singleton.mp hb]; exact sqlFar I hv hc⟩
    have e : its[j]? = some v := by simpa using e
    exact vals_back rv e
  | tu a =>
    obtain ⟨its, rv, p, hz⟩ := I.tuple hv
    have hl := rv.length
    refine ⟨[a], fun j v => its.toArray[j]? = some v, fun j h => h.IsTupleIter it a j ∧ h.IsTuple a its.toArray, by have := Draws.tuple (prog := X.prog) (w := X.w) hh it a (sqtFar I hv hit) its.toArray; rw [List.size_toArray, ← hl] at this; exact this, fun j v e => ?_, ⟨ht, p⟩, fun j h z => z.1, fun b c hb hc => by rw [List.mem_singleton.mp hb]; exact sqtFar I hv hc⟩
    have e : its[j]? = some v := by simpa using e
    exact vals_back rv e
  | tx x t =>
    have hl : vs.length = x.cps.size := by rw [show vs = chars x from hv]; simp [chars]
    refine ⟨[], fun i v => ∃ c u, x.cps[i]? = some c ∧ v = .str ⟨#[c]⟩ u, fun i h => h.IsStrIter it (strIterType x) x t i, by rw [hl]; exact Draws.text (prog := X.prog) (w := X.w) hh it x t, fun j v e => ?_, ht, fun j h z => z, fun b c hb => nomatch hb⟩
    obtain ⟨c, u, e1, e2⟩ := e
    subst e2
    rw [show vs = chars x from hv]
    exact ⟨_, chars_get e1, u, rfl⟩
end
/-! ### the walk itself -/
section
variable {P : Program} {w : World} {K : PySem.W.Frag} {tg : Expr}
theorem At.turn (a : At) (it : Addr) : Turn P w K tg (a.J K) [it] it (fun i h => a.tn it i h) := by
  cases a with
  | ls a => exact turn_list a it
  | tu a => exact turn_tuple a it
  | tx x t =>
    refine turn_str it x t (strIterType x) ?_
    unfold strIterType
    split
    · exact .inl rfl
    · exact .inr rfl
def ItE (K : PySem.W.Frag) (a : At) : It :=
  ⟨fun i H => ∃ vs x, a.has K H vs ∧ vs[i]? = some x, fun i H v H' => ∃ T x, v = .ref T ∧ H T = none ∧ H' = upd H T (.tup [.int (i : Nat), x]) ∧ ∀ vs, a.has K H vs → vs[i]? = some x, fun i H => ∃ vs, a.has K H vs ∧ vs.length = i⟩
theorem enumTurn {elts : List Expr} {kk : Nat} {tpos : Pos} (a : At) (e it : Addr) (hne : e ≠ it) :
    Turn P w K (.Tuple elts kk tpos) (ItE K a) [e, it] e (fun i h => (∃ old, IsEnum h e it ((i : Nat) : Int) old) ∧ a.tn it i h) where
  mem := by simp
  obj := fun i h st b hb => by
    obtain ⟨⟨old, he⟩, ht⟩ := st
    have e' : b = e ∨ b = it := by simpa using hb
    rcases e' with z | z
    · rw [z]; exact ⟨_, he, fun v q => nomatch q⟩
    · rw [z]; exact At.obj ht
  keep := fun i h h' st k => let ⟨⟨old, he⟩, hi⟩ := st; ⟨⟨old, k e (by simp) _ he⟩, At.keep hi fun o q => k it (by simp) o q⟩
  item := by
    intro X hP hw hK hc i pins s σ H E I hf st hg
    subst hP hw hK
    obtain ⟨⟨old, he⟩, hit⟩ := st
    obtain ⟨vs, x, hq, hx⟩ := hg
    obtain ⟨ext, Pd, St, D, hP, st0, hst, far⟩ := At.draws (A := X.A.in1) I hq (I.ok.hd hc) hit (hf it (by simp))
    have hef : e ∉ it :: ext := fun m => (List.mem_cons.mp m).elim hne fun m => far e e m (hf e (by simp)) rfl
    have G := GoesN.enumFrom (elts := elts) (x1 := kk) (pos := tpos) 0 D e hne hef (List.mem_cons_self ..)
    have hil : i < vs.length := (List.getElem?_eq_some_iff.mp hx).1
    refine G.goes i s _ E hil ⟨⟨old, by rw [Int.zero_add]; exact he⟩, st0⟩ fun v h' tk hY st' hk _ => ?_
    obtain ⟨T, t, u, rfl, hT, hu, hTup⟩ := hY
    obtain ⟨x', hx', ru⟩ := hP i u hu
    have ex : x' = x := Option.some.inj (hx'.symm.trans hx)
    subst ex
    rw [Int.zero_add] at hTup
    have new : ObjOk X.prog X.w (upd H T (.tup [.int (i : Nat), x'])) h' T (.tup [.int (i : Nat), x']) :=
      ⟨by show 2 ≤ sizeLine; decide, [.int i t, u], .cons ⟨_, rfl⟩ (.cons ru .nil), hTup⟩
    have I1 : Inv X pins σ (upd H T (.tup [.int (i : Nat), x'])) { s with heap := h', toks := tk } := I.turnedNew (ch := [e, it]) hk hf hT new
    refine ⟨.ref T, _, I1, rfl, ⟨T, x', rfl, I.hok.fresh hT, rfl, fun ys hy => by rw [At.inj I hy hq]; exact hx⟩, ⟨?_, hst _ _ st'.2⟩, fun b hb => ?_⟩
    · obtain ⟨old', h1⟩ := st'.1
      exact ⟨old', by rw [Int.zero_add] at h1; exact h1⟩
    · have hb' : b < s.heap.objs.size := by
        have e' : b = e ∨ b = it := by simpa using hb
        rcases e' with z | z
        · rw [z]; exact Heap.lt_size he
        · rw [z]; exact At.lt hit
      rw [upd_ne (Nat.ne_of_lt (Nat.lt_of_lt_of_le hb' hT))]
      exact (hf b hb).1
  done := by
    intro X hP hw hK hc i pins s σ H E I hf st hg
    subst hP hw hK
    obtain ⟨⟨old, he⟩, hit⟩ := st
    obtain ⟨vs, hq, hx⟩ := hg
    subst hx
    obtain ⟨ext, Pd, St, D, hP, st0, hst, far⟩ := At.draws (A := X.A.in1) I hq (I.ok.hd hc) hit (hf it (by simp))
    have hef : e ∉ it :: ext := fun m => (List.mem_cons.mp m).elim hne fun m => far e e m (hf e (by simp)) rfl
    have G := GoesN.enumFrom (elts := elts) (x1 := kk) (pos := tpos) 0 D e hne hef (List.mem_cons_self ..)
    refine G.stops s _ E ⟨⟨old, by rw [Int.zero_add]; exact he⟩, st0⟩ fun h' tk hk _ => ?_
    exact I.turnedL (ch := [e, it]) hk hf
  self := fun A i s Q E st h => let ⟨⟨_, he⟩, _⟩ := st; wpAny_pyIter_enum he h
def ItZ (K : PySem.W.Frag) (a b : At) : It :=
  ⟨fun i H => ∃ vs ws x y, a.has K H vs ∧ b.has K H ws ∧ vs[i]? = some x ∧ ws[i]? = some y,
   fun i H v H' => ∃ T x y, v = .ref T ∧ H T = none ∧ H' = upd H T (.tup [x, y]) ∧ (∀ vs, a.has K H vs → vs[i]? = some x) ∧ ∀ vs, b.has K H vs → vs[i]? = some y,
   fun i H => ∃ vs ws, a.has K H vs ∧ b.has K H ws ∧ min vs.length ws.length = i⟩
structure Zap (z TI TO i1 i2 : Addr) : Prop where
  TIz : TI ≠ z
  TOz : TO ≠ z
  TITO : TI ≠ TO
  TIi1 : TI ≠ i1
  TIi2 : TI ≠ i2
  z1 : z ≠ i1
  z2 : z ≠ i2
  T1 : TO ≠ i1
  T2 : TO ≠ i2
  ii : i1 ≠ i2
theorem zipTurn {elts : List Expr} {kk : Nat} {tpos : Pos} (a b : At) {z TI TO i1 i2 : Addr} (Z : Zap z TI TO i1 i2) :
    Turn P w K (.Tuple elts kk tpos) (ItZ K a b) [z, TI, TO, i1, i2] z (fun i h => IsZip h z TI TO .none ∧ IsTupOf2 h TI (.ref i1) (.ref i2) ∧ (∃ a1 a2, IsTupOf2 h TO a1 a2) ∧ a.tn i1 i h ∧ b.tn i2 i h) where
  mem := by simp
  obj := fun i h st c hc => by
    obtain ⟨hz, hTI, ⟨x, y, hTO⟩, h1, h2⟩ := st
    have e' : c = z ∨ c = TI ∨ c = TO ∨ c = i1 ∨ c = i2 := by simpa using hc
    rcases e' with q | q | q | q | q
    · rw [q]; exact ⟨_, hz, fun v q => nomatch q⟩
    · rw [q]; exact ⟨_, hTI, fun v q => nomatch q⟩
    · rw [q]; exact ⟨_, hTO, fun v q => nomatch q⟩
    · rw [q]; exact At.obj h1
    · rw [q]; exact At.obj h2
  keep := fun i h h' st k => by
    obtain ⟨hz, hTI, ⟨x, y, hTO⟩, h1, h2⟩ := st
    exact ⟨k z (by simp) _ hz, k TI (by simp) _ hTI, ⟨x, y, k TO (by simp) _ hTO⟩, At.keep h1 (fun o q => k i1 (by simp) o q), At.keep h2 fun o q => k i2 (by simp) o q⟩
  item := by
    intro X hP hw hK hc i pins s σ H E I hf st hg
    subst hP hw hK
    obtain ⟨hz, hTI, ⟨a1, a2, hTO⟩, h1, h2⟩ := st
    obtain ⟨vs, ws, x, y, hq1, hq2, hx, hy⟩ := hg
    obtain ⟨ext1, P1, St1, D1, hP1, st1, hs1, far1⟩ := At.draws (A := X.A.in1) I hq1 (I.ok.hd hc) h1 (hf i1 (by simp))
    obtain ⟨ext2, P2, St2, D2, hP2, st2, hs2, far2⟩ := At.draws (A := X.A.in1) I hq2 (I.ok.hd hc) h2 (hf i2 (by simp))
    have n1 : ∀ c, c ≠ i1 → c ∈ [z, TI, TO, i1, i2] → c ∉ i1 :: ext1 := fun c n m q => (List.mem_cons.mp q).elim n fun q => far1 c c q (hf c m) rfl
    have n2 : ∀ c, c ≠ i2 → c ∈ [z, TI, TO, i1, i2] → c ∉ i2 :: ext2 := fun c n m q => (List.mem_cons.mp q).elim n fun q => far2 c c q (hf c m) rfl
    have S : ZipSep2 z TI TO i1 i2 (i1 :: ext1) (i2 :: ext2) := ⟨Z.TIz, Z.TOz, Z.TITO, Z.TIi1, List.mem_cons_self .., n1 z Z.z1 (by simp), n1 TO Z.T1 (by simp), Z.TIi2, List.mem_cons_self .., n2 z Z.z2 (by simp), n2 TO Z.T2 (by simp), n2 i1 Z.ii (by simp), n1 i2 Z.ii.symm (by simp)⟩
    have G := GoesN.zip2 (elts := elts) (x1 := kk) (pos := tpos) S D1 D2
    have l1 : i < vs.length := (List.getElem?_eq_some_iff.mp hx).1
    have l2 : i < ws.length := (List.getElem?_eq_some_iff.mp hy).1
    refine G.goes i s _ E (Nat.lt_min.mpr ⟨l1, l2⟩) ⟨hz, hTI, ⟨a1, a2, hTO⟩, st1, st2⟩ fun v h' tk hY st' hk _ => ?_
    obtain ⟨T, u1, u2, rfl, hT, hu1, hu2, hTup⟩ := hY
    obtain ⟨x', hx', ru1⟩ := hP1 i u1 hu1
    obtain ⟨y', hy', ru2⟩ := hP2 i u2 hu2
    have ex : x' = x := Option.some.inj (hx'.symm.trans hx)
    have ey : y' = y := Option.some.inj (hy'.symm.trans hy)
    subst ex ey
    have new : ObjOk X.prog X.w (upd H T (.tup [x', y'])) h' T (.tup [x', y']) := ⟨by show 2 ≤ sizeLine; decide, [u1, u2], .cons ru1 (.cons ru2 .nil), hTup⟩
    have I1 : Inv X pins σ (upd H T (.tup [x', y'])) { s with heap := h', toks := tk } := I.turnedNew (ch := [z, TO, i1, i2]) hk (fun c m => hf c (by simp at m ⊢; rcases m with m | m | m | m <;> simp [m])) hT new
    refine ⟨.ref T, _, I1, rfl, ⟨T, x', y', rfl, I.hok.fresh hT, rfl, fun ys hy => by rw [At.inj I hy hq1]; exact hx, fun ys hz => by rw [At.inj I hz hq2]; exact hy⟩, ⟨st'.1, st'.2.1, st'.2.2.1, hs1 _ _ st'.2.2.2.1, hs2 _ _ st'.2.2.2.2⟩, fun c hcm => ?_⟩
    have hlt : c < s.heap.objs.size := by
      have e' : c = z ∨ c = TI ∨ c = TO ∨ c = i1 ∨ c = i2 := by simpa using hcm
      rcases e' with q | q | q | q | q
      · rw [q]; exact Heap.lt_size hz
      · rw [q]; exact Heap.lt_size hTI
      · rw [q]; exact Heap.lt_size hTO
      · rw [q]; exact At.lt h1
      · rw [q]; exact At.lt h2
    rw [upd_ne (Nat.ne_of_lt (Nat.lt_of_lt_of_le hlt hT))]
    exact (hf c hcm).1
  done := by
    intro X hP hw hK hc i pins s σ H E I hf st hg
    subst hP hw hK
    obtain ⟨hz, hTI, ⟨a1, a2, hTO⟩, h1, h2⟩ := st
    obtain ⟨vs, ws, hq1, hq2, hn⟩ := hg
    subst hn
    obtain ⟨ext1, P1, St1, D1, hP1, st1, hs1, far1⟩ := At.draws (A := X.A.in1) I hq1 (I.ok.hd hc) h1 (hf i1 (by simp))
    obtain ⟨ext2, P2, St2, D2, hP2, st2, hs2, far2⟩ := At.draws (A := X.A.in1) I hq2 (I.ok.hd hc) h2 (hf i2 (by simp))
    have n1 : ∀ c, c ≠ i1 → c ∈ [z, TI, TO, i1, i2] → c ∉ i1 :: ext1 := fun c n m q => (List.mem_cons.mp q).elim n fun q => far1 c c q (hf c m) rfl
    have n2 : ∀ c, c ≠ i2 → c ∈ [z, TI, TO, i1, i2] → c ∉ i2 :: ext2 := fun c n m q => (List.mem_cons.mp q).elim n fun q => far2 c c q (hf c m) rfl
    have S : ZipSep2 z TI TO i1 i2 (i1 :: ext1) (i2 :: ext2) := ⟨Z.TIz, Z.TOz, Z.TITO, Z.TIi1, List.mem_cons_self .., n1 z Z.z1 (by simp), n1 TO Z.T1 (by simp), Z.TIi2, List.mem_cons_self .., n2 z Z.z2 (by simp), n2 TO Z.T2 (by simp), n2 i1 Z.ii (by simp), n1 i2 Z.ii.symm (by simp)⟩
    have G := GoesN.zip2 (elts := elts) (x1 := kk) (pos := tpos) S D1 D2
    refine G.stops s _ E ⟨hz, hTI, ⟨a1, a2, hTO⟩, st1, st2⟩ fun h' tk hk _ => ?_
    exact I.turnedL (ch := [z, TO, i1, i2]) hk (fun c m => hf c (by simp at m ⊢; rcases m with m | m | m | m <;> simp [m]))
  self := fun A i s Q E st h => wpAny_pyIter_zip st.1 h
end
end MP

namespace MP
open PySem PySem.Spec PyProof.Rows L2
theorem meets_enumA {v : Value} {o : Obj} {H : Heap → Prop} (B : Begins v o H) :
    Meets (Builtin.«enumerate.__new__» ⟨[.type "enumerate", v], []⟩) (fun _ R s => H s.heap ∧
      R (.ok (.ret (.ref (s.heap.push o).objs.size))) { s with heap := (s.heap.push o).push { cls := .type "enumerate", data := .fields #[.none, .bool false, .ref s.heap.objs.size, rawInt 0, .none, .none] } }) :=
  .of_wp fun prog w A R s h => by
    obtain ⟨hp, g, d, tk, os⟩ := s; obtain ⟨h1, h⟩ := h
    have hsub := sub_enumerate
    have q1 : ∀ {A' : Around} {E : Value → Shared → Prop} {Q : Value → Shared → Prop}, Q (.ref hp.objs.size) ⟨hp.push o, g, d, tk, os⟩ → wpAny (model prog w) A' (pyIter v) Q E ⟨hp, g, d, tk, os⟩ :=
      fun q => B.iter prog w _ _ ⟨hp, g, d, tk, os⟩ _ h1 q
    wp_walk using q1
    refine wpAny_stack_any fun st => wpAny_pure ?_
    split
    · rename_i c _ _ _ _ _
      cases (c == Value.type "enumerate")
      · wp_walk using q1
        exact ⟨_, rfl, h⟩
      · wp_walk using q1
        exact ⟨_, rfl, h⟩
    · wp_walk using q1
      exact ⟨_, rfl, h⟩
theorem call_enumA {prog : Program} {w : World} {A : Around} {E : Value → Shared → Prop} {s : Shared} {v : Value} {o : Obj} {H : Heap → Prop} {Q : Value → Shared → Prop} (B : Begins v o H) (h1 : H s.heap)
    (h : ∀ h', IsEnum h' (s.heap.objs.size + 1) s.heap.objs.size 0 .none → h'.get? s.heap.objs.size = some o → h'.objs.size = s.heap.objs.size + 2 →
      (∀ b o, s.heap.get? b = some o → h'.get? b = some o) → Q (.ref (s.heap.objs.size + 1)) { s with heap := h' }) :
    wpAny (model prog w) A (call (.type "enumerate") [v]) Q E s := by
  refine callType_new F.called_enumerate (by decide) (F.typeCall_enumerate_1 _) (F.newCall_enumerate_1 _) (fun obj => F.args_object_init_2 obj _) F.entry_enumerate_new
    (meets_enumA B) ⟨h1, ?_⟩
  have hz : (s.heap.push o).objs.size = s.heap.objs.size + 1 := Heap.size_push ..
  show _ ∧ _
  rw [hz]
  have he : IsEnum ((s.heap.push o).push { cls := .type "enumerate", data := .fields #[.none, .bool false, .ref s.heap.objs.size, rawInt 0, .none, .none] }) (s.heap.objs.size + 1) s.heap.objs.size 0 .none := by
    have := Heap.get?_push_size (s.heap.push o) (o := { cls := .type "enumerate", data := .fields #[.none, .bool false, .ref s.heap.objs.size, rawInt 0, .none, .none] }) rfl
    rw [hz] at this; exact this
  refine ⟨⟨_, he, rfl⟩, h _ he (Heap.get?_push_of_some _ (Heap.get?_push_size _ B.free)) (by rw [Heap.size_push, hz]) fun b o x => Heap.get?_push_of_some _ (Heap.get?_push_of_some _ x)⟩
/-! ### a source and what walks it -/
structure AR (K : PySem.W.Frag) (cA : Nat → Addr) (src : Src) (ρ : Nat → Addr) (n : Nat) (H : Hp) (a : At) : Prop where
  go : ∀ ρ' h' H', Le K ρ n H ρ' h'.n H' → Sim K cA ρ' h' H' → ∀ i v, src.at h' i = some v → ∃ vs x, a.has K H' vs ∧ vs[i]? = some x ∧ Rep K ρ' h'.n H' v x
  len : ∀ ρ' h' H', Le K ρ n H ρ' h'.n H' → Sim K cA ρ' h' H' → ∀ m, src.len h' = some m → ∃ vs, a.has K H' vs ∧ vs.length = m
structure JR (K : PySem.W.Frag) (cA : Nat → Addr) (src : Src) (ρ : Nat → Addr) (n : Nat) (H : Hp) (J : It) : Prop where
  go : ∀ ρ' h' H', Le K ρ n H ρ' h'.n H' → Sim K cA ρ' h' H' → ∀ i v, src.at h' i = some v → J.go i H' ∧ ∀ x H3, J.yld i H' x H3 → Le K ρ' h'.n H' ρ' h'.n H3 ∧ Sim K cA ρ' h' H3 ∧ Rep K ρ' h'.n H3 v x
  stop : ∀ ρ' h' H', Le K ρ n H ρ' h'.n H' → Sim K cA ρ' h' H' → ∀ i, src.done h' i = true → J.stop i H'
theorem done_len {src : Src} {h : Hq} {i : Nat} (e : src.done h i = true) : src.len h = some i := by
  unfold Src.done at e
  split at e
  · rename_i n e1
    rw [e1, Nat.eq_of_beq_eq_true e]
  · cases e
section
variable {K : PySem.W.Frag} {cA : Nat → Addr} {ρ : Nat → Addr} {h : Hq} {H : Hp}
theorem getL_ref {r : Nat} (e : (getL h r).isSome = true) : r < h.n := by
  unfold getL at e
  split at e
  · rename_i xs g; exact Hq.get_lt g
  · rename_i xs g; exact Hq.get_lt g
  · cases e
theorem atom_of {v : PV} {x : V} {u : Value} {s : Src} (sim : Sim K cA ρ h H) (r : Rep K ρ h.n H v x) (rv : RelV x u) (hs : srcOf h v = some s) : ∃ a : At, u = a.val ∧ (∃ vs, a.has K H vs) ∧ AR K cA s ρ h.n H a := by
  cases v <;> try cases hs
  · rename_i l
    cases r with
    | str o =>
      obtain ⟨t, rfl⟩ := rv
      have hl : (chars (toS l)).length = l.length := by simp [chars]
      have hg : ∀ i : Nat, (chars (toS l))[i]? = (l[i]?).map fun c => V.str ⟨#[c]⟩ := fun i => by
        unfold chars
        rw [List.getElem?_map]
      refine ⟨.tx (toS l) t, rfl, ⟨_, rfl⟩, fun ρ' h' H' le sim' i v e => ?_, fun ρ' h' H' le sim' m e => ?_⟩
      · have e : (l.map fun c => PV.str [c])[i]? = some v := e
        rw [List.getElem?_map] at e
        cases ec : l[i]? with
        | none => rw [ec] at e; cases e
        | some c =>
          rw [ec] at e
          cases e
          refine ⟨_, .str ⟨#[c]⟩, rfl, by rw [hg, ec]; rfl, .str (s := [c]) ⟨by show 1 ≤ SL; decide, fun d hd => ?_⟩⟩
          rw [List.mem_singleton.mp hd]
          exact o.2 c (List.mem_of_getElem? ec)
      · cases e
        exact ⟨_, rfl, by rw [hl]; simp⟩
  · rename_i xs
    cases r with
    | tup ht rl =>
      obtain rfl := rv
      refine ⟨.tu _, rfl, ⟨_, ht⟩, fun ρ' h' H' le sim' i v e => ?_, fun ρ' h' H' le sim' m e => ?_⟩
      · obtain ⟨y, e1, e2⟩ := rl.get (i := i) e
        exact ⟨_, y, le.tup _ _ ht, e1, e2.mono le⟩
      · cases e
        exact ⟨_, le.tup _ _ ht, rl.length.symm⟩
  · rename_i q
    obtain rfl := r.ref_inv
    obtain rfl := rv
    have hs : (match getL h q with | some _ => some (Src.lst q) | none => none) = some s := hs
    split at hs
    · rename_i xs g
      cases hs
      have hq : q < h.n := getL_ref (by rw [g]; rfl)
      obtain ⟨vs, t, rl⟩ := sim.getL g
      refine ⟨.ls (ρ q), rfl, ⟨vs, t⟩, fun ρ' h' H' le sim' i v e => ?_, fun ρ' h' H' le sim' m e => ?_⟩
      · unfold Src.at at e
        split at e
        · rename_i ys g'
          obtain ⟨ws, t', rl'⟩ := sim'.getL g'
          obtain ⟨y, e1, e2⟩ := rl'.get e
          exact ⟨ws, y, by rw [← le.eq q hq]; exact t', e1, e2⟩
        · cases e
      · unfold Src.len at e
        split at e
        · rename_i ys g'
          obtain ⟨ws, t', rl'⟩ := sim'.getL g'
          cases e
          exact ⟨ws, by rw [← le.eq q hq]; exact t', rl'.length.symm⟩
        · cases e
    · cases hs
theorem AR.mono {src : Src} {a : At} {ρ' : Nat → Addr} {n n' : Nat} {H' : Hp} (le : Le K ρ n H ρ' n' H') (r : AR K cA src ρ n H a) : AR K cA src ρ' n' H' a :=
  ⟨fun _ _ _ l => r.go _ _ _ (le.trans l), fun _ _ _ l => r.len _ _ _ (le.trans l)⟩
theorem AR.plain {src : Src} {a : At} {n : Nat} (r : AR K cA src ρ n H a) : JR K cA src ρ n H (a.J K) := by
  cases a with
  | ls p =>
    refine ⟨fun ρ' h' H' le sim i v e => ?_, fun ρ' h' H' le sim i e => ?_⟩
    · obtain ⟨vs, x, hv, hx, rx⟩ := r.go _ _ _ le sim i v e
      refine ⟨⟨vs, x, hv, hx⟩, fun y H3 q => ?_⟩
      obtain ⟨rfl, q⟩ := q
      have := q vs hv
      rw [hx] at this
      cases this
      exact ⟨Le.refl, sim, rx⟩
    · obtain ⟨vs, hv, hl⟩ := r.len _ _ _ le sim i (done_len e)
      exact ⟨vs, hv, Nat.le_of_eq hl⟩
  | tu p =>
    refine ⟨fun ρ' h' H' le sim i v e => ?_, fun ρ' h' H' le sim i e => ?_⟩
    · obtain ⟨vs, x, hv, hx, rx⟩ := r.go _ _ _ le sim i v e
      refine ⟨⟨vs, x, hv, hx⟩, fun y H3 q => ?_⟩
      obtain ⟨rfl, q⟩ := q
      have := q vs hv
      rw [hx] at this
      cases this
      exact ⟨Le.refl, sim, rx⟩
    · obtain ⟨vs, hv, hl⟩ := r.len _ _ _ le sim i (done_len e)
      exact ⟨vs, hv, Nat.le_of_eq hl⟩
  | tx z t =>
    have hz : (chars z).length = z.cps.size := by simp [chars]
    refine ⟨fun ρ' h' H' le sim i v e => ?_, fun ρ' h' H' le sim i e => ?_⟩
    · obtain ⟨vs, x, hv, hx, rx⟩ := r.go _ _ _ le sim i v e
      have hv : vs = chars z := hv
      subst hv
      refine ⟨by show i < z.cps.size; rw [← hz]; exact (List.getElem?_eq_some_iff.mp hx).1, fun y H3 q => ?_⟩
      obtain ⟨rfl, c, hc, rfl⟩ := q
      rw [chars_get hc] at hx
      cases hx
      exact ⟨Le.refl, sim, rx⟩
    · obtain ⟨vs, hv, hl⟩ := r.len _ _ _ le sim i (done_len e)
      have hv : vs = chars z := hv
      subst hv
      show z.cps.size ≤ i
      omega
theorem AR.enum {src : Src} {a : At} {n : Nat} (r : AR K cA src ρ n H a) : JR K cA (.enum src) ρ n H (ItE K a) := by
  refine ⟨fun ρ' h' H' le sim i v e => ?_, fun ρ' h' H' le sim i e => ?_⟩
  · have e : (src.at h' i).map (fun v => PV.tup [.int i, v]) = some v := e
    cases e1 : src.at h' i with
    | none => rw [e1] at e; cases e
    | some w =>
      rw [e1] at e
      cases e
      obtain ⟨vs, x, hv, hx, rx⟩ := r.go _ _ _ le sim i w e1
      refine ⟨⟨vs, x, hv, hx⟩, fun y H3 q => ?_⟩
      obtain ⟨T, x', rfl, hT, rfl, q⟩ := q
      have := q vs hv
      rw [hx] at this
      cases this
      exact ⟨le_upd hT, sim.grow hT, .tup (.inl (.inl upd_same)) (.cons (.int _) (.cons (rx.mono (le_upd hT)) .nil))⟩
  · exact r.len _ _ _ le sim i (done_len e)
theorem AR.zip {src src2 : Src} {a b : At} {n : Nat} (r : AR K cA src ρ n H a) (r2 : AR K cA src2 ρ n H b) : JR K cA (.zip src src2) ρ n H (ItZ K a b) := by
  refine ⟨fun ρ' h' H' le sim i v e => ?_, fun ρ' h' H' le sim i e => ?_⟩
  · unfold Src.at at e
    split at e
    · rename_i w1 e1
      split at e
      · rename_i w2 e2
        cases e
        obtain ⟨vs, x, hv, hx, rx⟩ := r.go _ _ _ le sim i w1 e1
        obtain ⟨ws, y, hw, hy, ry⟩ := r2.go _ _ _ le sim i w2 e2
        refine ⟨⟨vs, ws, x, y, hv, hw, hx, hy⟩, fun z H3 q => ?_⟩
        obtain ⟨T, x', y', rfl, hT, rfl, q, q2⟩ := q
        have := q vs hv
        rw [hx] at this
        cases this
        have := q2 ws hw
        rw [hy] at this
        cases this
        exact ⟨le_upd hT, sim.grow hT, .tup (.inl (.inl upd_same)) (.cons (rx.mono (le_upd hT)) (.cons (ry.mono (le_upd hT)) .nil))⟩
      · cases e
    · cases e
  · have e := done_len e
    unfold Src.len at e
    split at e
    · rename_i m1 e1
      split at e
      · rename_i m2 e2
        cases e
        obtain ⟨vs, hv, rfl⟩ := r.len _ _ _ le sim _ e1
        obtain ⟨ws, hw, rfl⟩ := r2.len _ _ _ le sim _ e2
        exact ⟨vs, ws, hv, hw, rfl⟩
      · cases e
    · cases e
theorem rangeI_get : ∀ (n i : Nat) (a c : Int), (rangeI n a c)[i]? = if i < n then some (PV.int (a + i * c)) else none
  | 0, i, a, c => by simp [rangeI]
  | n + 1, 0, a, c => by simp [rangeI]
  | n + 1, i + 1, a, c => by
    unfold rangeI
    rw [List.getElem?_cons_succ, rangeI_get n i]
    by_cases e : i < n
    · rw [if_pos e, if_pos (by omega)]
      congr 2
      push_cast
      rw [Int.add_mul, Int.one_mul]
      omega
    · rw [if_neg e, if_neg (by omega)]
theorem rangeI_len : ∀ (n : Nat) (a c : Int), (rangeI n a c).length = n
  | 0, _, _ => rfl
  | n + 1, a, c => by unfold rangeI; rw [List.length_cons, rangeI_len n]
theorem JR.range {a : Int} {m n : Nat} : JR K cA (.itm (rangeI m a 1)) ρ n H (Itr a m) := by
  refine ⟨fun ρ' h' H' le sim i v e => ?_, fun ρ' h' H' le sim i e => ?_⟩
  · have e : (rangeI m a 1)[i]? = some v := e
    rw [rangeI_get] at e
    by_cases hi : i < m
    · rw [if_pos hi] at e
      cases e
      refine ⟨hi, fun x H3 q => ?_⟩
      obtain ⟨rfl, rfl⟩ := q
      refine ⟨Le.refl, sim, ?_⟩
      rw [Int.mul_one]
      exact .int _
    · rw [if_neg hi] at e; cases e
  · have e := done_len e
    have e : some (rangeI m a 1).length = some i := e
    rw [rangeI_len] at e
    cases e
    exact Nat.le_refl _
theorem JR.rangeC {a c : Int} {m n : Nat} : JR K cA (.itm (rangeI m a c)) ρ n H (Itc a c m) := by
  refine ⟨fun ρ' h' H' le sim i v e => ?_, fun ρ' h' H' le sim i e => ?_⟩
  · have e : (rangeI m a c)[i]? = some v := e
    rw [rangeI_get] at e
    by_cases hi : i < m
    · rw [if_pos hi] at e
      cases e
      refine ⟨hi, fun x H3 q => ?_⟩
      obtain ⟨rfl, rfl⟩ := q
      exact ⟨Le.refl, sim, .int _⟩
    · rw [if_neg hi] at e; cases e
  · have e := done_len e
    have e : some (rangeI m a c).length = some i := e
    rw [rangeI_len] at e
    cases e
    exact Nat.le_refl _
end
end MP

namespace MP
open PySem PySem.Spec PyProof.Rows L2
/-! ### sources -/
def LI (K : PySem.W.Frag) (cA : Nat → Addr) (W : WX) (t : Env → Hq → Res Src) : TI := fun σ H R => ∃ ρ h env, Sim K cA ρ h H ∧ SimE K ρ h.n H env σ ∧
  (t env h).wp (fun src h' => ∀ ρ' H' J, Le K ρ h.n H ρ' h'.n H' → Sim K cA ρ' h' H' → JR K cA src ρ' h'.n H' J → R J H') (PostX K cA ρ h H W σ)
section
variable {X : Cx} {cA : Nat → Addr} {W : WX}
theorem piI {tg e : Expr} {t t' : TI} (h : PI X tg e t) (hi : ∀ σ H R, t' σ H R → t σ H R) : PI X tg e t' := ⟨fun pins s σ H Q I q => h.run pins s σ H Q I (hi _ _ _ q)⟩
theorem srcF_wp {h : Hq} {o : Option Src} {P : Src → Hq → Prop} {E : Nat → Hq → Prop} (q : (srcF h o).wp P E) : ∃ s, o = some s ∧ P s h := by
  cases o with
  | none => exact q.elim
  | some s => exact ⟨s, rfl, q⟩
theorem pil_src {tg e : Expr} {te : Env → Hq → Res PV} (he : PE X e (LE X.K cA W te)) : PI X tg e (LI X.K cA W fun env h => (te env h).bind fun v h1 => srcF h1 (srcOf h1 v)) := by
  refine ⟨fun pins s σ H R I q => ?_⟩
  obtain ⟨ρ, h, env, sim, se, hw⟩ := q
  rw [Res.wp_bind] at hw
  refine thn (he.run pins s σ H (fun x H1 => ∃ ρ1 h1 v, Le X.K ρ h.n H ρ1 h1.n H1 ∧ Sim X.K cA ρ1 h1 H1 ∧ Rep X.K ρ1 h1.n H1 v x ∧ ∃ s, srcOf h1 v = some s ∧ ∀ ρ' H' J, Le X.K ρ h.n H ρ' h1.n H' → Sim X.K cA ρ' h1 H' → JR X.K cA s ρ' h1.n H' J → R J H') I ⟨ρ, h, env, sim, se, Res.wp_mono hw (fun v h1 hv ρ1 H1 u1 le1 sim1 r1 => ?_) fun c h1 hc => hc⟩) fun u s1 z => ?_
  · obtain ⟨s, e1, p⟩ := srcF_wp hv
    exact ⟨ρ1, h1, v, le1, sim1, r1, s, e1, p⟩
  · obtain ⟨x, H1, I1, rv, ρ1, h1, v, le1, sim1, r1, src, e1, p⟩ := z
    obtain ⟨a, rfl, ⟨vs, hv⟩, ar⟩ := atom_of sim1 r1 rv e1
    obtain ⟨G, B, g⟩ := At.begins I1 hv
    exact B.iter _ _ _ _ _ _ g (pi_one (tk := s1.toks) I1 a.ob (a.turn _) (At.ob_tn (Heap.get?_push_size _ B.free)) (p ρ1 H1 _ le1 sim1 ar.plain))
theorem pil_enum {e : Expr} {te : Env → Hq → Res PV} {p pos tpos : Pos} {elts : List Expr} {kk : Nat} (hg : Gl X "enumerate") (hm : X.mg "enumerate" = none) (he : PE X e (LE X.K cA W te)) (hs : starEach [e] X.env = [(false, eval e X.env)]) :
    PI X (.Tuple elts kk tpos) (.Call (.Name "enumerate" p) [e] [] pos) (LI X.K cA W fun env h => (te env h).bind fun v h1 => srcF h1 (enumF (srcOf h1 v))) := by
  refine ⟨fun pins s σ H R I q => ?_⟩
  obtain ⟨ρ, h, env, sim, se, hw⟩ := q
  rw [Res.wp_bind] at hw
  have ha : PA X [e] (tCons (LE X.K cA W te) tNil) := pa_cons he pa_nil hs
  refine Call_ (ld_blt I hg hm PyProof.Rows.boot_enumerate (PyProof.Rows.callWith_type1 (thn (ha.run pos pins s σ H (fun xs H1 => ∃ x, xs = [x] ∧ ∃ ρ1 h1 v, Le X.K ρ h.n H ρ1 h1.n H1 ∧ Sim X.K cA ρ1 h1 H1 ∧ Rep X.K ρ1 h1.n H1 v x ∧ ∃ s, enumF (srcOf h1 v) = some s ∧ ∀ ρ' H' J, Le X.K ρ h.n H ρ' h1.n H' → Sim X.K cA ρ' h1 H' → JR X.K cA s ρ' h1.n H' J → R J H') I ⟨ρ, h, env, sim, se, Res.wp_mono hw (fun v h1 hv ρ1 H1 u1 le1 sim1 r1 => ?_) fun c h1 hc => hc⟩) fun us s1 z => ?_) hs rfl))
  · obtain ⟨s, e1, p⟩ := srcF_wp hv
    exact ⟨u1, rfl, ρ1, h1, v, le1, sim1, r1, s, e1, p⟩
  · obtain ⟨xs, H1, I1, rvs, x, ex, ρ1, h1, v, le1, sim1, r1, src, e1, p⟩ := z
    subst ex
    cases rvs with
    | cons rv rr =>
      cases rr
      cases e2 : srcOf h1 v with
      | none => rw [e2] at e1; cases e1
      | some src0 =>
        rw [e2] at e1
        cases e1
        obtain ⟨a, rfl, ⟨vs, hv⟩, ar⟩ := atom_of sim1 r1 rv e2
        obtain ⟨G, B, g⟩ := At.begins I1 hv
        refine call_enumA B g fun h' he hit hsz hk => wpAny_pyIter_enum he ?_
        have I2 : Inv X pins σ H1 { s1 with heap := h' } := I1.kept (t' := s1.toks) hk
        refine ⟨s1.heap.objs.size + 1, [s1.heap.objs.size + 1, s1.heap.objs.size], _, _, H1, rfl, I2, enumTurn a (s1.heap.objs.size + 1) s1.heap.objs.size (Nat.succ_ne_self _), ⟨⟨.none, he⟩, At.ob_tn hit⟩, fun b hb => ?_, p ρ1 H1 _ le1 sim1 ar.enum⟩
        have e' : b = s1.heap.objs.size + 1 ∨ b = s1.heap.objs.size := by simpa using hb
        have hle : s1.heap.objs.size ≤ b := by
          rcases e' with z | z
          · rw [z]; exact Nat.le_add_right _ _
          · rw [z]; exact Nat.le_refl _
        exact I1.fpOk hle (I1.hok.fresh hle)
theorem zap (N : Nat) : Zap (N + 4) (N + 2) (N + 3) N (N + 1) :=
  ⟨show (N + 2 : Nat) ≠ N + 4 by omega, show (N + 3 : Nat) ≠ N + 4 by omega, show (N + 2 : Nat) ≠ N + 3 by omega, show (N + 2 : Nat) ≠ N by omega, show (N + 2 : Nat) ≠ N + 1 by omega, show (N + 4 : Nat) ≠ N by omega, show (N + 4 : Nat) ≠ N + 1 by omega, show (N + 3 : Nat) ≠ N by omega, show (N + 3 : Nat) ≠ N + 1 by omega, show (N : Nat) ≠ N + 1 by omega⟩
theorem pil_zip {e e2 : Expr} {te te2 : Env → Hq → Res PV} {p pos tpos : Pos} {elts : List Expr} {kk : Nat} (hg : Gl X "zip") (hm : X.mg "zip" = none) (he : PE X e (LE X.K cA W te)) (he2 : PE X e2 (LE X.K cA W te2))
    (hs : starEach [e, e2] X.env = (false, eval e X.env) :: starEach [e2] X.env) (hs2 : starEach [e2] X.env = [(false, eval e2 X.env)]) (hpl : (backTo pos (starEach [e2] X.env)).any (·.1) = false) :
    PI X (.Tuple elts kk tpos) (.Call (.Name "zip" p) [e, e2] [] pos) (LI X.K cA W fun env h => (te env h).bind fun v h1 => (te2 env h1).bind fun w h2 => srcF h2 (zipF (srcOf h2 v) (srcOf h2 w))) := by
  refine ⟨fun pins s σ H R I q => ?_⟩
  obtain ⟨ρ, h, env, sim, se, hw⟩ := q
  rw [Res.wp_bind] at hw
  have ha : PA X [e, e2] (tCons (LE X.K cA W te) (tCons (LE X.K cA W te2) tNil)) := pa_cons he (pa_cons he2 pa_nil hs2) hs
  refine Call_ (ld_blt I hg hm PyProof.Rows.boot_zip (PyProof.Rows.callWith_type1 (thn (ha.run pos pins s σ H (fun xs H1 => ∃ x y, xs = [x, y] ∧ ∃ ρ1 h1 v w, Le X.K ρ h.n H ρ1 h1.n H1 ∧ Sim X.K cA ρ1 h1 H1 ∧ Rep X.K ρ1 h1.n H1 v x ∧ Rep X.K ρ1 h1.n H1 w y ∧ ∃ s, zipF (srcOf h1 v) (srcOf h1 w) = some s ∧ ∀ ρ' H' J, Le X.K ρ h.n H ρ' h1.n H' → Sim X.K cA ρ' h1 H' → JR X.K cA s ρ' h1.n H' J → R J H') I ⟨ρ, h, env, sim, se, Res.wp_mono hw (fun v h1 hv ρ1 H1 u1 le1 sim1 r1 => ?_) fun c h1 hc => hc⟩) fun us s1 z => ?_) hs hpl))
  · rw [Res.wp_bind] at hv
    refine ⟨ρ1, h1, env, sim1, se.mono le1, Res.wp_mono hv (fun w h2 hv2 ρ2 H2 u2 le2 sim2 r2 => ?_) fun c h2 hc => hc.from le1⟩
    obtain ⟨s, e1, p⟩ := srcF_wp hv2
    exact ⟨u1, u2, rfl, ρ2, h2, v, w, le1.trans le2, sim2, r1.mono le2, r2, s, e1, p⟩
  · obtain ⟨xs, H1, I1, rvs, x, y, ex, ρ1, h1, v, w, le1, sim1, r1, r2, src, e1, p⟩ := z
    subst ex
    cases rvs with
    | cons rv rr =>
      cases rr with
      | cons rw' rr =>
        cases rr
        cases e2 : srcOf h1 v with
        | none => rw [e2] at e1; cases e1
        | some src0 =>
          cases e3 : srcOf h1 w with
          | none => rw [e2, e3] at e1; cases e1
          | some src1 =>
            rw [e2, e3] at e1
            cases e1
            obtain ⟨a, rfl, ⟨vs, hv⟩, ar⟩ := atom_of sim1 r1 rv e2
            obtain ⟨b, rfl, ⟨ws, hw⟩, br⟩ := atom_of sim1 r2 rw' e3
            obtain ⟨G, B, g⟩ := At.begins I1 hv
            obtain ⟨G2, B2, g2⟩ := At.begins I1 hw
            refine zip_begins2 B B2 g g2 fun h' hz hTI hTO o1 o2 hsz hk => wpAny_pyIter_zip hz ?_
            have I2 : Inv X pins σ H1 { s1 with heap := h' } := I1.kept (t' := s1.toks) hk
            refine ⟨s1.heap.objs.size + 4, [s1.heap.objs.size + 4, s1.heap.objs.size + 2, s1.heap.objs.size + 3, s1.heap.objs.size, s1.heap.objs.size + 1], _, _, H1, rfl, I2, zipTurn a b (zap s1.heap.objs.size), ⟨hz, hTI, ⟨_, _, hTO⟩, At.ob_tn o1, At.ob_tn o2⟩, fun c hcm => ?_, p ρ1 H1 _ le1 sim1 (ar.zip br)⟩
            have e' : c = s1.heap.objs.size + 4 ∨ c = s1.heap.objs.size + 2 ∨ c = s1.heap.objs.size + 3 ∨ c = s1.heap.objs.size ∨ c = s1.heap.objs.size + 1 := by simpa using hcm
            have hle : s1.heap.objs.size ≤ c := by
              rcases e' with z | z | z | z | z
              · rw [z]; exact Nat.le_add_right _ _
              · rw [z]; exact Nat.le_add_right _ _
              · rw [z]; exact Nat.le_add_right _ _
              · rw [z]; exact Nat.le_refl _
              · rw [z]; exact Nat.le_add_right _ _
            exact I1.fpOk hle (I1.hok.fresh hle)
theorem itmF_some {o : Option (List PV)} {s : Src} (e : itmF o = some s) : ∃ xs, o = some xs ∧ s = .itm xs := by
  cases o with
  | none => cases e
  | some xs => cases e; exact ⟨xs, rfl, rfl⟩
theorem LI.args {K : PySem.W.Frag} {t : Env → Hq → Res (List PV)} {σ : L2.St} {H : Hp} {R : It → Hp → Prop} (q : LI K cA W (fun env h => (t env h).bind fun vs h1 => srcF h1 (itmF (rangeS vs))) σ H R) {n : Nat} (hl : ∀ env h vs h1, t env h = .ret vs h1 → vs.length = n) :
    LA K cA W t σ H (fun us H1 => us.length = n ∧ ∃ (ρ : Nat → Addr) (h : Hq) (vs xs : List PV), RepL K ρ h.n H1 vs us ∧ rangeS vs = some xs ∧ ∀ J, JR K cA (.itm xs) ρ h.n H1 J → R J H1) := by
  obtain ⟨ρ, h, env, sim, se, hw⟩ := q
  refine ⟨ρ, h, env, sim, se, ?_⟩
  simp only [Res.wp_bind] at hw
  cases e1 : t env h with
  | ret vs h1 =>
    rw [e1] at hw
    intro ρ1 H1 us le1 sim1 r1
    obtain ⟨s, e2, p⟩ := srcF_wp hw
    obtain ⟨xs, e3, rfl⟩ := itmF_some e2
    exact ⟨by rw [← r1.length]; exact hl _ _ _ _ e1, ρ1, h1, vs, xs, r1, e3, fun J j => p ρ1 H1 J le1 sim1 j⟩
  | exc c h1 => rw [e1] at hw; exact hw
  | fail => rw [e1] at hw; exact hw
theorem small62_iff {i : Int} (h : small62 i = true) : -(2 ^ 62) ≤ i ∧ i < 2 ^ 62 := by
  unfold small62 at h
  rw [Bool.and_eq_true, decide_eq_true_eq, decide_eq_true_eq] at h
  exact h
theorem pil_range1 {tg a : Expr} {t : Env → Hq → Res (List PV)} {p pos : Pos} (hg : Gl X "range") (hm : X.mg "range" = none) (ha : PA X [a] (LA X.K cA W t)) (hl : ∀ env h vs h1, t env h = .ret vs h1 → vs.length = 1) (hs : starEach [a] X.env = [(false, eval a X.env)]) :
    PI X tg (.Call (.Name "range" p) [a] [] pos) (LI X.K cA W fun env h => (t env h).bind fun vs h1 => srcF h1 (itmF (rangeS vs))) := by
  refine piI (pi_range1 hg hm ha hs) fun σ H R q => (LI.args q hl).imp fun us H1 z => ?_
  obtain ⟨hn, ρ, h, vs, xs, rl, e, k⟩ := z
  cases rl with
  | nil => cases hn
  | cons r rr =>
    cases rr with
    | cons r2 rr => cases hn
    | nil =>
      rename_i v u
      cases v <;> try cases e
      rename_i n
      obtain rfl := r.int_inv
      have e : (if small62 n then some (rangeI n.toNat 0 1) else none) = some xs := e
      split at e
      · rename_i s1
        cases e
        exact ⟨n, rfl, (small62_iff s1).1, (small62_iff s1).2, k _ JR.range⟩
      · cases e
theorem pil_range2 {tg a b : Expr} {t : Env → Hq → Res (List PV)} {p pos : Pos} (hg : Gl X "range") (hm : X.mg "range" = none) (ha : PA X [a, b] (LA X.K cA W t)) (hl : ∀ env h vs h1, t env h = .ret vs h1 → vs.length = 2) (hs : starEach [a, b] X.env = [(false, eval a X.env), (false, eval b X.env)]) (hs2 : starEach [b] X.env = [(false, eval b X.env)]) :
    PI X tg (.Call (.Name "range" p) [a, b] [] pos) (LI X.K cA W fun env h => (t env h).bind fun vs h1 => srcF h1 (itmF (rangeS vs))) := by
  refine piI (pi_range2 hg hm ha hs hs2) fun σ H R q => (LI.args q hl).imp fun us H1 z => ?_
  obtain ⟨hn, ρ, h, vs, xs, rl, e, k⟩ := z
  cases rl with
  | nil => cases hn
  | cons r rr =>
    cases rr with
    | nil => cases hn
    | cons r2 rr =>
      cases rr with
      | cons r3 rr => cases hn
      | nil =>
        rename_i v u w y
        cases v <;> try cases e
        cases w <;> try cases e
        rename_i n m
        obtain rfl := r.int_inv
        obtain rfl := r2.int_inv
        have e : (if small62 n && small62 m then some (rangeI (m - n).toNat n 1) else none) = some xs := e
        split at e
        · rename_i s1
          rw [Bool.and_eq_true] at s1
          cases e
          exact ⟨n, m, rfl, ⟨(small62_iff s1.1).1, (small62_iff s1.1).2, (small62_iff s1.2).1, (small62_iff s1.2).2⟩, k _ JR.range⟩
        · cases e
theorem pil_range3 {tg a b c : Expr} {t : Env → Hq → Res (List PV)} {p pos : Pos} (hg : Gl X "range") (hm : X.mg "range" = none) (ha : PA X [a, b, c] (LA X.K cA W t)) (hl : ∀ env h vs h1, t env h = .ret vs h1 → vs.length = 3)
    (hs : starEach [a, b, c] X.env = (false, eval a X.env) :: starEach [b, c] X.env) (hpl : (backTo pos (starEach [b, c] X.env)).any (·.1) = false) :
    PI X tg (.Call (.Name "range" p) [a, b, c] [] pos) (LI X.K cA W fun env h => (t env h).bind fun vs h1 => srcF h1 (itmF (rangeS vs))) := by
  refine piI (pi_range3 hg hm ha hs hpl) fun σ H R q => (LI.args q hl).imp fun us H1 z => ?_
  obtain ⟨hn, ρ, h, vs, xs, rl, e, k⟩ := z
  cases rl with
  | nil => cases hn
  | cons r rr =>
    cases rr with
    | nil => cases hn
    | cons r2 rr =>
      cases rr with
      | nil => cases hn
      | cons r3 rr =>
        cases rr with
        | cons r4 rr => cases hn
        | nil =>
          rename_i v u w y x z
          cases v <;> try cases e
          cases w <;> try cases e
          cases x <;> try cases e
          rename_i n m c
          obtain rfl := r.int_inv
          obtain rfl := r2.int_inv
          obtain rfl := r3.int_inv
          have e : (if small62 n && small62 m && decide (c = -1) then some (rangeI (n - m).toNat n (-1)) else none) = some xs := e
          split at e
          · rename_i s1
            rw [Bool.and_eq_true, Bool.and_eq_true, decide_eq_true_eq] at s1
            obtain ⟨⟨s1, s2⟩, s3⟩ := s1
            cases e
            subst s3
            exact ⟨n, m, -1, _, rfl, RgC.neg (small62_iff s1).1 (small62_iff s1).2 (small62_iff s2).1 (small62_iff s2).2, k _ JR.rangeC⟩
          · cases e
end
end MP

namespace MP
open PySem PySem.Spec PyProof.Rows L2
/-! ### comprehensions -/
def NoX : WX := fun _ _ _ _ => False
/-- a test of a comprehension -/
def LB (K : PySem.W.Frag) (cA : Nat → Addr) (W : WX) (t : Env → Hq → Res Bool) : TT := fun σ H Q => ∃ ρ h env, Sim K cA ρ h H ∧ SimE K ρ h.n H env σ ∧
  (t env h).wp (fun b h' => ∀ ρ' H', Le K ρ h.n H ρ' h'.n H' → Sim K cA ρ' h' H' → Q b H') (PostX K cA ρ h H W σ)
section
variable {X : Cx} {cA : Nat → Addr} {W : WX}
theorem ptsI {e : List Expr} {t t' : TT} (h : PTs X e t) (hi : ∀ σ H Q, t' σ H Q → t σ H Q) : PTs X e t' := ⟨fun pins s σ H Q I q => h.run pins s σ H Q I (hi _ _ _ q)⟩
theorem ptsl_nil : PTs X [] (LB X.K cA W fun _ h => .ret true h) := ptsI pts_nil fun σ H Q q => by
  obtain ⟨ρ, h, env, sim, se, hw⟩ := q
  exact hw ρ H Le.refl sim
theorem tru_wp {v : PV} {h : Hq} {P : Bool → Hq → Prop} {E : Nat → Hq → Prop} (q : (tru v h).wp P E) : ∃ b, v = .bl b ∧ P b h := by
  cases v <;> try exact q.elim
  exact ⟨_, rfl, q⟩
theorem ptsl_one {c : Expr} {t : Env → Hq → Res PV} (hc : PT X c (LT X.K cA W t)) : PTs X [c] (LB X.K cA W fun env h => (t env h).bind fun v h1 => tru v h1) := ptsI (pts_one hc) fun σ H Q q => by
  obtain ⟨ρ, h, env, sim, se, hw⟩ := q
  rw [Res.wp_bind] at hw
  refine ⟨ρ, h, env, sim, se, Res.wp_mono hw (fun v h1 hv => ?_) fun _ _ p => p⟩
  obtain ⟨b, rfl, p⟩ := tru_wp hv
  exact ⟨b, rfl, p⟩
theorem okIf_wp2 {b : Bool} {t : Res PV} {P : PV → Hq → Prop} {E : Nat → Hq → Prop} (h : (okIf b t).wp P E) : b = true ∧ t.wp P E := okIf_wp h
theorem lc_imp {K : PySem.W.Frag} {ts : Env → Hq → Res Src} {t : Tg} {own : List Nat} {tst : Env → Hq → Res Bool} {te : Env → Hq → Res PV} {σ : L2.St} {H : Hp} {Q : VK} (hsl : ∀ j, j ∈ slots t → j ∈ own)
    (q : LE K cA W (fun env h => (ts env h).bind fun src h1 => lcLoop src t own (wipeE env own) h1.n tst te (src.size h1) (src.size h1) (h1.push (.lst []))) σ H Q) :
    tLc (LI K cA W ts) (tgG K t) (LB K cA NoX tst) (LE K cA NoX te) own σ H Q := by
  obtain ⟨ρ, h, env, sim, se, hw⟩ := q
  rw [Res.wp_bind] at hw
  refine ⟨ρ, h, env, sim, se, Res.wp_mono hw (fun src h1 hv ρ1 H1 J le1 sim1 j D hD => ?_) fun c h1 hc => hc⟩
  refine ⟨fun i m H' => ∃ ρ' h', i + m = src.size h1 ∧ Le K ρ1 h1.n H1 ρ' h'.n H' ∧ Sim K cA ρ' h' H' ∧ ρ' h1.n = D ∧ h1.n < h'.n ∧
    (lcLoop src t own (wipeE env own) h1.n tst te (src.size h1) m h').wp (PostV K cA ρ' h' H' Q) (fun _ _ => True), ⟨src.size h1, extR ρ1 h1.n D, h1.push (.lst []), Nat.zero_add _, le_new hD, sim1.push hD ⟨[], upd_same, .nil⟩, extR_self .., Nat.lt_succ_self _, Res.wp_mono hv (fun z h3 p => p.from (le1.trans (le_new hD))) fun _ _ _ => trivial⟩, ?_⟩
  rintro i m H' ⟨ρ', h', hn, le', sim', hρ, hlt, hw'⟩
  cases m with
  | zero =>
    have hw' : (okIf (src.done h' (src.size h1)) (.ret (.ref h1.n) h')).wp (PostV K cA ρ' h' H' Q) (fun _ _ => True) := hw'
    obtain ⟨hd, hw'⟩ := okIf_wp hw'
    left
    refine ⟨j.stop ρ' h' H' le' sim' i (by rw [show i = src.size h1 by omega]; exact hd), ?_⟩
    exact PostV.now hw' sim' (.ref hlt hρ.symm)
  | succ k =>
    have ei : src.size h1 - (k + 1) = i := by omega
    unfold lcLoop at hw'
    rw [ei] at hw'
    split at hw'
    · exact hw'.elim
    · rename_i v ev
      split at hw'
      · exact hw'.elim
      · rename_i env1 e1
        right
        obtain ⟨go, yl⟩ := j.go ρ' h' H' le' sim' i v ev
        refine ⟨go, _, fun H'' z => ⟨k, Nat.lt_succ_self _, z⟩, fun x H3 y => ?_⟩
        obtain ⟨le3, sim3, rx⟩ := yl x H3 y
        have leA := le1.trans (le'.trans le3)
        refine tgG_ok t v x (wipeE env own) env1 (wipe σ own) rx ((se.mono leA).wipe own) e1 fun σ2 se2 l2 k2 => ⟨?_, ?_⟩
        · rw [← wipe_wipe (σ := σ) (vs := own)]
          refine wipe_same l2 fun jj hj => k2 jj fun z => hj (hsl jj z)
        · rw [Res.wp_bind] at hw'
          refine ⟨ρ', h', env1, sim3, se2, Res.wp_shut (E := fun _ _ => True) (Res.wp_mono hw' (fun b h4 hb ρ4 H4 le4 sim4 => ?_) fun _ _ _ => trivial)⟩
          · cases b with
            | false =>
              rw [if_neg Bool.false_ne_true]
              rw [if_neg Bool.false_ne_true] at hb
              exact ⟨ρ4, h4, by omega, le'.trans (le3.trans le4), sim4, by rw [le4.eq _ hlt]; exact hρ, Nat.lt_of_lt_of_le hlt le4.le, Res.wp_mono hb (fun z h6 p => p.from (le3.trans le4)) fun _ _ p => p⟩
            | true =>
              rw [if_pos rfl]
              rw [if_pos rfl, Res.wp_bind] at hb
              refine ⟨ρ4, h4, env1, sim4, se2.mono le4, Res.wp_shut (E := fun _ _ => True) (Res.wp_mono hb (fun u h5 hb ρ5 H5 y le5 sim5 r5 => ?_) fun _ _ _ => trivial)⟩
              have hb : (match h5.get h1.n with | some (.lst acc) => if MP.le' (acc.length + 1) SL = true then lcLoop src t own (wipeE env own) h1.n tst te (src.size h1) k (h5.set h1.n (.lst (acc ++ [u]))) else Res.fail | _ => Res.fail).wp (PostV K cA ρ' h' H' Q) (fun _ _ => True) := hb
              split at hb
              · rename_i acc g
                split at hb
                · rename_i hsz
                  obtain ⟨vs, hvs, rl⟩ := sim5.obj _ _ g
                  have le45 := le4.trans le5
                  have hρ5 : ρ5 h1.n = D := by rw [le45.eq _ hlt]; exact hρ
                  have hlt5 : h1.n < h5.n := Nat.lt_of_lt_of_le hlt le45.le
                  rw [hρ5] at hvs
                  refine ⟨vs, hvs, by rw [← rl.length]; exact Nat.lt_of_succ_le (le_of hsz), ?_⟩
                  have wr : Wr (H5 (ρ5 h1.n)) := by rw [hρ5, hvs]; trivial
                  have lew : Le K ρ5 h5.n H5 ρ5 h5.n (upd H5 D (.lst (vs ++ [y]))) := by have := le_wr (K := K) (ρ := ρ5) (n := h5.n) (u := .lst (vs ++ [y])) wr; rw [hρ5] at this; exact this
                  have simw : Sim K cA ρ5 (h5.set h1.n (.lst (acc ++ [u]))) (upd H5 (ρ5 h1.n) (.lst (vs ++ [y]))) := sim5.write g rfl rfl wr (by
                    refine ⟨vs ++ [y], upd_same, ?_⟩
                    rw [hρ5]
                    exact (rl.mono lew).append (.cons (r5.mono lew) .nil))
                  rw [hρ5] at simw
                  have leF := le3.trans (le45.trans lew)
                  exact ⟨ρ5, h5.set h1.n (.lst (acc ++ [u])), by omega, le'.trans leF, simw, hρ5, hlt5, Res.wp_mono hb (fun z h6 p => p.from leF) fun _ _ p => p⟩
                · exact hb.elim
              · exact hb.elim
/-- [elt for tg in iter if ..] -/
theorem pl_lc {elt tg iter : Expr} {ifs : List Expr} {scope : Scope} {own : List (Str × Nat)} {pos : Pos} {ts : Env → Hq → Res Src} {t : Tg} {tst : Env → Hq → Res Bool} {te : Env → Hq → Res PV} (hc : X.calm = true) (hN : X.N.Nodup) (hi : PI X tg iter (LI X.K cA W ts)) (ok : BlkOk X.N X.env.scope scope own)
    (hg : ∀ (s : Shared) (H : Hp) (C : Addr) (cl : List (Str × Addr)) (fp : List Addr), PG (X.blk s H scope (compEnvC scope cl C X.env) fp) tg (tgG X.K t)) (ht : ∀ (s : Shared) (H : Hp) (C : Addr) (cl : List (Str × Addr)) (fp : List Addr), PTs (X.blk s H scope (compEnvC scope cl C X.env) fp) ifs (LB X.K cA NoX tst))
    (he : ∀ (s : Shared) (H : Hp) (C : Addr) (cl : List (Str × Addr)) (fp : List Addr), PE (X.blk s H scope (compEnvC scope cl C X.env) fp) elt (LE X.K cA NoX te)) (hsl : ∀ j, j ∈ slots t → j ∈ own.map (·.2)) (hs : ∀ x, foldedSetIterable iter X.env x = pure x) :
    PE X (.ListComp elt [⟨tg, iter, ifs, 0⟩] scope pos) (LE X.K cA W fun env h => (ts env h).bind fun src h1 => lcLoop src t (own.map (·.2)) (wipeE env (own.map (·.2))) h1.n tst te (src.size h1) (src.size h1) (h1.push (.lst []))) :=
  peI (pe_lc hc hN hi ok hg ht he hs) fun σ H Q q => lc_imp hsl q
end
end MP

namespace MP
open PySem PySem.Spec PyProof.Rows L2
/-! ### statements -/
section
variable (K : PySem.W.Frag) (cA : Nat → Addr) (ρ : Nat → Addr) (h : Hq) (H : Hp) (W : WX)
/-- the end of a statement -/
def PostF (D : Ends) : Flow × Env → Hq → Prop := fun p h' => ∀ ρ' H' σ', Le K ρ h.n H ρ' h'.n H' → Sim K cA ρ' h' H' → SimE K ρ' h'.n H' p.2 σ' →
  match p.1 with
  | .next => D.nx σ' H'
  | .cont => D.ct σ' H'
  | .ret v => ∀ u, Rep K ρ' h'.n H' v u → D.rt u H'
def PostZ : Nat → Hq → Prop := fun c h' => ∀ ρ' H' σ', Le K ρ h.n H ρ' h'.n H' → Sim K cA ρ' h' H' → W (.ref (cA c)) none σ' H'
end
def LS (K : PySem.W.Frag) (cA : Nat → Addr) (W : WX) (t : Env → Hq → Rs) : TS := fun D σ H => ∃ ρ h env, Sim K cA ρ h H ∧ SimE K ρ h.n H env σ ∧ (t env h).wp (PostF K cA ρ h H D) (PostZ K cA ρ h H W)
section
variable {K : PySem.W.Frag} {cA : Nat → Addr} {ρ ρ' : Nat → Addr} {h h' : Hq} {H H' : Hp} {W : WX} {D D' : Ends}
theorem PostF.from {p : Flow × Env} {h3 : Hq} (le : Le K ρ h.n H ρ' h'.n H') (P : PostF K cA ρ h H D p h3) : PostF K cA ρ' h' H' D p h3 := fun ρ2 H2 σ2 l => P ρ2 H2 σ2 (le.trans l)
theorem PostZ.from {c : Nat} {h3 : Hq} (le : Le K ρ h.n H ρ' h'.n H') (P : PostZ K cA ρ h H W c h3) : PostZ K cA ρ' h' H' W c h3 := fun ρ2 H2 σ2 l => P ρ2 H2 σ2 (le.trans l)
theorem PostZ.x {c : Nat} {h3 : Hq} {σ : L2.St} (P : PostZ K cA ρ h H W c h3) : PostX K cA ρ h H W σ c h3 := fun ρ2 H2 l s => P ρ2 H2 σ l s
theorem PostF.now {p : Flow × Env} {σ : L2.St} (P : PostF K cA ρ h H D p h) (sim : Sim K cA ρ h H) (se : SimE K ρ h.n H p.2 σ) : match p.1 with
  | .next => D.nx σ H
  | .cont => D.ct σ H
  | .ret v => ∀ u, Rep K ρ h.n H v u → D.rt u H := P ρ H σ Le.refl sim se
theorem PostF.ends {p : Flow × Env} {h3 : Hq} (hn : ∀ σ H, p.1 = .next → D.nx σ H → D'.nx σ H) (hc : ∀ σ H, p.1 = .cont → D.ct σ H → D'.ct σ H) (hr : ∀ v H, D.rt v H → D'.rt v H) (P : PostF K cA ρ h H D p h3) : PostF K cA ρ h H D' p h3 := fun ρ2 H2 σ2 l s e => by
  have q := P ρ2 H2 σ2 l s e
  obtain ⟨f, env⟩ := p
  cases f with
  | next => exact hn _ _ rfl q
  | cont => exact hc _ _ rfl q
  | ret v => exact fun u r => hr _ _ (q u r)
end
section
variable {X : Cx} {cA : Nat → Addr} {W : WX}
theorem psI {st : Stmt} {t t' : TS} (h : PS X st t) (hi : ∀ D σ H, t' D σ H → t D σ H) : PS X st t' := ⟨fun pins s σ H D I q => h.run pins s σ H D I (hi _ _ _ q)⟩
theorem pssI {st : List Stmt} {t t' : TS} (h : PSs X st t) (hi : ∀ D σ H, t' D σ H → t D σ H) : PSs X st t' := ⟨fun pins s σ H D I q => h.run pins s σ H D I (hi _ _ _ q)⟩
theorem psl_nil : PSs X [] (LS X.K cA W fun env h => .ret (.next, env) h) := pssI pss_nil fun D σ H q => by
  obtain ⟨ρ, h, env, sim, se, hw⟩ := q
  exact PostF.now hw sim se
theorem psl_cons {st : Stmt} {rest : List Stmt} {t u : Env → Hq → Rs} (h1 : PS X st (LS X.K cA W t)) (h2 : PSs X rest (LS X.K cA W u)) : PSs X (st :: rest) (LS X.K cA W fun env h => (t env h).bind fun p h1 => seqF p h1 u) := pssI (pss_cons h1 h2) fun D σ H q => by
  obtain ⟨ρ, h, env, sim, se, hw⟩ := q
  rw [Res.wp_bind] at hw
  refine ⟨ρ, h, env, sim, se, Res.wp_mono hw (fun p h1 hv ρ1 H1 σ1 le1 sim1 se1 => ?_) fun _ _ p => p⟩
  obtain ⟨f, env1⟩ := p
  cases f with
  | next => exact ⟨ρ1, h1, env1, sim1, se1, Res.wp_mono hv (fun p h2 z => z.from le1) fun c h2 z => z.from le1⟩
  | cont => exact PostF.now (PostF.from le1 hv) sim1 se1
  | ret v => exact PostF.now (PostF.from le1 hv) sim1 se1
theorem psl_pass {pos : Pos} : PS X (.Pass pos) (LS X.K cA W fun env h => .ret (.next, env) h) := psI ps_pass fun D σ H q => by
  obtain ⟨ρ, h, env, sim, se, hw⟩ := q
  exact PostF.now hw sim se
theorem psl_cont {pos : Pos} : PS X (.Continue pos) (LS X.K cA W fun env h => .ret (.cont, env) h) := psI ps_continue fun D σ H q => by
  obtain ⟨ρ, h, env, sim, se, hw⟩ := q
  exact PostF.now hw sim se
theorem psl_expr {e : Expr} {t : Env → Hq → Res PV} {pos : Pos} (he : PE X e (LE X.K cA W t)) (hs : swapsWith e none pos.line X.env = pure false) : PS X (.Expr e pos) (LS X.K cA W fun env h => (t env h).bind fun _ h1 => .ret (.next, env) h1) := psI (ps_expr he hs) fun D σ H q => by
  obtain ⟨ρ, h, env, sim, se, hw⟩ := q
  rw [Res.wp_bind] at hw
  exact ⟨ρ, h, env, sim, se, Res.wp_mono hw (fun v h1 hv ρ1 H1 u1 le1 sim1 r1 => PostF.now (PostF.from le1 hv) sim1 (se.mono le1)) fun _ _ p => p.x⟩
theorem psl_ret {e : Expr} {t : Env → Hq → Res PV} {pos : Pos} (he : PE X e (LE X.K cA W t)) : PS X (.Return (some e) pos) (LS X.K cA W fun env h => (t env h).bind fun v h1 => .ret (.ret v, env) h1) := psI (ps_ret he) fun D σ H q => by
  obtain ⟨ρ, h, env, sim, se, hw⟩ := q
  rw [Res.wp_bind] at hw
  exact ⟨ρ, h, env, sim, se, Res.wp_mono hw (fun v h1 hv ρ1 H1 u1 le1 sim1 r1 => PostF.now (PostF.from le1 hv) sim1 (se.mono le1) u1 r1) fun _ _ p => p.x⟩
theorem psl_retN {pos : Pos} : PS X (.Return none pos) (LS X.K cA W fun env h => .ret (.ret .non, env) h) := psI ps_retN fun D σ H q => by
  obtain ⟨ρ, h, env, sim, se, hw⟩ := q
  exact PostF.now hw sim se _ .non
theorem envF_wp {h : Hq} {o : Option Env} {P : Flow × Env → Hq → Prop} {E : Nat → Hq → Prop} (q : (envF h o).wp P E) : ∃ env, o = some env ∧ P (.next, env) h := by
  cases o with
  | none => exact q.elim
  | some s => exact ⟨s, rfl, q⟩
theorem asg_imp {K : PySem.W.Frag} {t : Env → Hq → Res PV} {tg : Tg} {D : Ends} {σ : L2.St} {H : Hp} (q : LS K cA W (fun env h => (t env h).bind fun v h1 => envF h1 (asgT tg v env)) D σ H) : tAsg (LE K cA W t) (tgG K tg) D σ H := by
  obtain ⟨ρ, h, env, sim, se, hw⟩ := q
  rw [Res.wp_bind] at hw
  refine ⟨ρ, h, env, sim, se, Res.wp_mono hw (fun v h1 hv ρ1 H1 u1 le1 sim1 r1 => ?_) fun _ _ p => p.x⟩
  obtain ⟨env1, e1, p⟩ := envF_wp hv
  exact tgG_ok tg v u1 env env1 σ r1 (se.mono le1) e1 fun σ2 se2 _ _ => PostF.now (PostF.from le1 p) sim1 se2
theorem psl_asg {tg e : Expr} {t : Env → Hq → Res PV} {g : Tg} {pos : Pos} (he : PE X e (LE X.K cA W t)) (hg : PG X tg (tgG X.K g)) (hs : swapsWithSole [tg] e pos.line X.env = pure false) (hw : swappedStores [tg] e X.env = pure none)
    (h1 : (assignEach [tg] X.env).map (·.2) = [assign tg X.env]) : PS X (.Assign [tg] e pos) (LS X.K cA W fun env h => (t env h).bind fun v h1 => envF h1 (asgT g v env)) := psI (ps_asg he hg hs hw h1) fun D σ H q => asg_imp q
theorem psl_set {i : Nat} {x : Str} {e : Expr} {t : Env → Hq → Res PV} {pos pos' : Pos} (hN : X.N.Nodup) (hi : X.N[i]? = some x) (hx : Loc X.env.scope x) (he : PE X e (LE X.K cA W t)) (hs : swapsWith e (some (.Name x pos')) pos.line X.env = pure false) (hf : X.fn x = true ∨ X.env.scope.names.lookup x = some .local) :
    PS X (.Assign [.Name x pos'] e pos) (LS X.K cA W fun env h => (t env h).bind fun v h1 => envF h1 (asgT (.name i) v env)) := psI (ps_set hN hi hx he hs hf) fun D σ H q => asg_imp q
theorem psl_setLc {i : Nat} {y : Str} {py : Pos} {elt tg iter : Expr} {ifs : List Expr} {scope : Scope} {own : List (Str × Nat)} {pos spos : Pos} {ts : Env → Hq → Res Src} {t : Tg} {tst : Env → Hq → Res Bool} {te : Env → Hq → Res PV} (hc : X.calm = true) (hN : X.N.Nodup) (hy : X.N[i]? = some y) (hyl : X.env.scope.names.lookup y = some .local)
    (hsw : swapsWith (.ListComp elt [⟨tg, iter, ifs, 0⟩] scope pos) (some (.Name y py)) spos.line X.env = pure true) (hi : PI X tg iter (LI X.K cA W ts)) (ok : BlkOk X.N X.env.scope scope own)
    (hg : ∀ (s : Shared) (H : Hp) (C : Addr) (cl : List (Str × Addr)) (fp : List Addr), PG (X.blk s H scope (compEnvC scope cl C X.env) fp) tg (tgG X.K t)) (ht : ∀ (s : Shared) (H : Hp) (C : Addr) (cl : List (Str × Addr)) (fp : List Addr), PTs (X.blk s H scope (compEnvC scope cl C X.env) fp) ifs (LB X.K cA NoX tst))
    (he : ∀ (s : Shared) (H : Hp) (C : Addr) (cl : List (Str × Addr)) (fp : List Addr), PE (X.blk s H scope (compEnvC scope cl C X.env) fp) elt (LE X.K cA NoX te)) (hsl : ∀ j, j ∈ slots t → j ∈ own.map (·.2)) (hs : ∀ x, foldedSetIterable iter X.env x = pure x) :
    PS X (.Assign [.Name y py] (.ListComp elt [⟨tg, iter, ifs, 0⟩] scope pos) spos) (LS X.K cA W fun env h => ((ts env h).bind fun src h1 => lcLoop src t (own.map (·.2)) (wipeE env (own.map (·.2))) h1.n tst te (src.size h1) (src.size h1) (h1.push (.lst []))).bind fun v h1 => envF h1 (asgT (.name i) v env)) :=
  psI (ps_setLc hc hN hy hyl hsw hi ok hg ht he hs) fun D σ H q => by
    have q := asg_imp q
    exact lc_imp hsl q
theorem setMany_ok {K : PySem.W.Frag} {ρ : Nat → Addr} {n : Nat} {H : Hp} : ∀ (is : List Nat) (vs : List PV) (us : List V) (env env' : Env) (σ : L2.St), RepL K ρ n H vs us → SimE K ρ n H env σ → setMany is vs env = some env' → us.length = is.length ∧ SimE K ρ n H env' ((is.zip us).foldl (fun σ p => σ.set p.1 (some p.2)) σ)
  | [], [], us, env, env', σ, r, se, e => by cases r; cases e; exact ⟨rfl, se⟩
  | [], _ :: _, _, _, _, _, _, _, e => by cases e
  | _ :: _, [], _, _, _, _, _, _, e => by cases e
  | i :: is, v :: vs, us, env, env', σ, r, se, e => by
    cases r with
    | cons r rr =>
      obtain ⟨h1, h2⟩ := setMany_ok is vs _ _ env' _ rr (se.set i r) e
      exact ⟨by rw [List.length_cons, List.length_cons, h1], h2⟩
theorem par_imp {K : PySem.W.Frag} {t : Env → Hq → Res (List PV)} {is : List Nat} {D : Ends} {σ : L2.St} {H : Hp} (q : LS K cA W (fun env h => (t env h).bind fun vs h1 => envF h1 (setMany is vs env)) D σ H) :
    LA K cA W t σ H fun us H1 => us.length = is.length ∧ D.nx ((is.zip us).foldl (fun σ p => σ.set p.1 (some p.2)) σ) H1 := by
  obtain ⟨ρ, h, env, sim, se, hw⟩ := q
  rw [Res.wp_bind] at hw
  refine ⟨ρ, h, env, sim, se, Res.wp_mono hw (fun vs h1 hv ρ1 H1 us le1 sim1 r1 => ?_) fun _ _ p => p.x⟩
  obtain ⟨env1, e1, p⟩ := envF_wp hv
  obtain ⟨hl, se1⟩ := setMany_ok is vs us env env1 σ r1 (se.mono le1) e1
  exact ⟨hl, PostF.now (PostF.from le1 p) sim1 se1⟩
theorem psl_par {i j : Nat} {x y : Str} {a b : Expr} {t : Env → Hq → Res (List PV)} {px py pt pos : Pos} {kt k2 pt2} (hc : X.calm = true) (hN : X.N.Nodup) (hi : X.N[i]? = some x) (hj : X.N[j]? = some y) (hij : i ≠ j)
    (hx : X.env.scope.names.lookup x = some .local) (hy : X.env.scope.names.lookup y = some .local) (ha : PA X [a, b] (LA X.K cA W t))
    (hw : swappedStores [.Tuple [.Name x px, .Name y py] kt pt] (.Tuple [a, b] k2 pt2) X.env = pure (some [x, y]))
    (hs : swapsWithSole [.Tuple [.Name x px, .Name y py] kt pt] (.Tuple [a, b] k2 pt2) pos.line X.env = pure false) :
    PS X (.Assign [.Tuple [.Name x px, .Name y py] kt pt] (.Tuple [a, b] k2 pt2) pos) (LS X.K cA W fun env h => (t env h).bind fun vs h1 => envF h1 (setMany [i, j] vs env)) :=
  psI (ps_par hc hN hi hj hij hx hy ha hw hs) fun D σ H q => (par_imp q).imp fun us H1 z => by
    obtain ⟨hl, z⟩ := z
    match us, hl, z with
    | [u, v], _, z => exact ⟨u, v, rfl, z⟩
theorem psl_par3 {i j l : Nat} {x y z : Str} {a b c : Expr} {t : Env → Hq → Res (List PV)} {px py pz pt pos : Pos} {kt k2 pt2} (hc : X.calm = true) (hN : X.N.Nodup) (hi : X.N[i]? = some x) (hj : X.N[j]? = some y) (hl : X.N[l]? = some z) (hij : i ≠ j) (hil : i ≠ l) (hjl : j ≠ l)
    (hx : X.env.scope.names.lookup x = some .local) (hy : X.env.scope.names.lookup y = some .local) (hz : X.env.scope.names.lookup z = some .local) (ha : PA X [a, b, c] (LA X.K cA W t))
    (hw : swappedStores [.Tuple [.Name x px, .Name y py, .Name z pz] kt pt] (.Tuple [a, b, c] k2 pt2) X.env = pure (some [x, y, z]))
    (hs : swapsWithSole [.Tuple [.Name x px, .Name y py, .Name z pz] kt pt] (.Tuple [a, b, c] k2 pt2) pos.line X.env = pure false) :
    PS X (.Assign [.Tuple [.Name x px, .Name y py, .Name z pz] kt pt] (.Tuple [a, b, c] k2 pt2) pos) (LS X.K cA W fun env h => (t env h).bind fun vs h1 => envF h1 (setMany [i, j, l] vs env)) :=
  psI (ps_par3 hc hN hi hj hl hij hil hjl hx hy hz ha hw hs) fun D σ H q => (par_imp q).imp fun us H1 z => by
    obtain ⟨hl, z⟩ := z
    match us, hl, z with
    | [u, v, w], _, z => exact ⟨u, v, w, rfl, z⟩
theorem ifS_wp {v : PV} {h : Hq} {a b : Hq → Rs} {P : Flow × Env → Hq → Prop} {E : Nat → Hq → Prop} (q : (ifS v h a b).wp P E) : ∃ k, v = .bl k ∧ ((if k = true then a else b) h).wp P E := by
  cases v <;> try exact q.elim
  rename_i k
  exact ⟨k, rfl, by cases k <;> exact q⟩
theorem psl_if {c : Expr} {a b : List Stmt} {tc : Env → Hq → Res PV} {ta tb : Env → Hq → Rs} {pos : Pos} (hc : PT X c (LT X.K cA W tc)) (ha : PSs X a (LS X.K cA W ta)) (hb : PSs X b (LS X.K cA W tb)) :
    PS X (.If c a b pos) (LS X.K cA W fun env h => (tc env h).bind fun v h1 => ifS v h1 (ta env) (tb env)) := psI (ps_if hc ha hb) fun D σ H q => by
  obtain ⟨ρ, h, env, sim, se, hw⟩ := q
  rw [Res.wp_bind] at hw
  refine ⟨ρ, h, env, sim, se, Res.wp_mono hw (fun v h1 hv => ?_) fun _ _ p => p.x⟩
  obtain ⟨k, rfl, hv⟩ := ifS_wp hv
  refine ⟨k, rfl, fun ρ1 H1 le1 sim1 => ?_⟩
  cases k with
  | true => rw [if_pos rfl]; exact ⟨ρ1, h1, env, sim1, se.mono le1, Res.wp_mono hv (fun p h2 z => z.from le1) fun c h2 z => z.from le1⟩
  | false => rw [if_neg Bool.false_ne_true]; exact ⟨ρ1, h1, env, sim1, se.mono le1, Res.wp_mono hv (fun p h2 z => z.from le1) fun c h2 z => z.from le1⟩
/-! ### loops -/
theorem for_imp {K : PySem.W.Frag} {ts : Env → Hq → Res Src} {tg : Tg} {tb : Env → Hq → Rs} {D : Ends} {σ : L2.St} {H : Hp} (q : LS K cA W (fun env h => (ts env h).bind fun src h1 => forLoop src tg tb (src.size h1) (src.size h1) env h1) D σ H) :
    tFor (LI K cA W ts) (tgG K tg) (LS K cA W tb) D σ H := by
  obtain ⟨ρ, h, env, sim, se, hw⟩ := q
  rw [Res.wp_bind] at hw
  refine ⟨ρ, h, env, sim, se, Res.wp_mono hw (fun src h1 hv ρ1 H1 J le1 sim1 j => ?_) fun _ _ p => p.x⟩
  refine ⟨fun i m σ' H' => ∃ ρ' h' env', i + m = src.size h1 ∧ Le K ρ1 h1.n H1 ρ' h'.n H' ∧ Sim K cA ρ' h' H' ∧ SimE K ρ' h'.n H' env' σ' ∧
    (forLoop src tg tb (src.size h1) m env' h').wp (PostF K cA ρ' h' H' D) (PostZ K cA ρ' h' H' W), ⟨src.size h1, ρ1, h1, env, Nat.zero_add _, Le.refl, sim1, se.mono le1, Res.wp_mono hv (fun z h3 p => p.from le1) fun c h3 p => p.from le1⟩, ?_⟩
  rintro i m σ' H' ⟨ρ', h', env', hn, le', sim', se', hw'⟩
  cases m with
  | zero =>
    have hw' : (if src.done h' (src.size h1) = true then (Res.ret (Flow.next, env') h' : Rs) else .fail).wp (PostF K cA ρ' h' H' D) (PostZ K cA ρ' h' H' W) := hw'
    split at hw'
    · rename_i hd
      exact .inl ⟨j.stop ρ' h' H' le' sim' i (by rw [show i = src.size h1 by omega]; exact hd), PostF.now hw' sim' se'⟩
    · exact hw'.elim
  | succ k =>
    have ei : src.size h1 - (k + 1) = i := by omega
    unfold forLoop at hw'
    rw [ei] at hw'
    split at hw'
    · exact hw'.elim
    · rename_i v ev
      split at hw'
      · exact hw'.elim
      · rename_i env1 e1
        right
        obtain ⟨go, yl⟩ := j.go ρ' h' H' le' sim' i v ev
        refine ⟨go, _, fun σ'' H'' z => ⟨k, Nat.lt_succ_self _, z⟩, fun x H3 y => ?_⟩
        obtain ⟨le3, sim3, rx⟩ := yl x H3 y
        refine tgG_ok tg v x env' env1 σ' rx (se'.mono le3) e1 fun σ2 se2 _ _ => ?_
        rw [Res.wp_bind] at hw'
        refine ⟨ρ', h', env1, sim3, se2, Res.wp_mono hw' (fun p h4 hp ρ4 H4 σ4 le4 sim4 se4 => ?_) fun c h4 z => z.from le3⟩
        obtain ⟨f, env4⟩ := p
        have leF := le3.trans le4
        cases f with
        | next => exact ⟨ρ4, h4, env4, by omega, le'.trans leF, sim4, se4, Res.wp_mono hp (fun z h6 p => p.from leF) fun c h6 p => p.from leF⟩
        | cont => exact ⟨ρ4, h4, env4, by omega, le'.trans leF, sim4, se4, Res.wp_mono hp (fun z h6 p => p.from leF) fun c h6 p => p.from leF⟩
        | ret v => exact PostF.now (PostF.from leF hp) sim4 se4
theorem psl_for {tg iter : Expr} {body : List Stmt} {ts : Env → Hq → Res Src} {g : Tg} {tb : Env → Hq → Rs} {pos : Pos} (hp : PassesOwn (model X.prog X.w) X.A X.env X.xe) (hc : X.calm = true) (hi : PI X tg iter (LI X.K cA W ts)) (hg : PG X tg (tgG X.K g)) (hb : PSs X body (LS X.K cA W tb)) (hs : ∀ x, foldedSetIterable iter X.env x = pure x) :
    PS X (.For tg iter body [] pos) (LS X.K cA W fun env h => (ts env h).bind fun src h1 => forLoop src g tb (src.size h1) (src.size h1) env h1) := psI (ps_for hp hc hi hg hb hs) fun D σ H q => for_imp q
theorem while_imp {K : PySem.W.Frag} {tc : Env → Hq → Res PV} {tb : Env → Hq → Rs} {wf : Nat} {D : Ends} {σ : L2.St} {H : Hp} (q : LS K cA W (fun env h => whileLoop (fun env h => (tc env h).bind fun v h1 => tru v h1) tb wf env h) D σ H) :
    tWhile (LT K cA W tc) (LS K cA W tb) D σ H := by
  obtain ⟨ρ, h, env, sim, se, hw⟩ := q
  refine ⟨fun m σ' H' => ∃ ρ' h' env', Sim K cA ρ' h' H' ∧ SimE K ρ' h'.n H' env' σ' ∧ (whileLoop (fun env h => (tc env h).bind fun v h1 => tru v h1) tb m env' h').wp (PostF K cA ρ' h' H' D) (PostZ K cA ρ' h' H' W), ⟨wf, ρ, h, env, sim, se, hw⟩, ?_⟩
  rintro m σ' H' ⟨ρ', h', env', sim', se', hw'⟩
  cases m with
  | zero => exact hw'.elim
  | succ k =>
    unfold whileLoop at hw'
    simp only [Res.wp_bind] at hw'
    refine ⟨ρ', h', env', sim', se', Res.wp_mono hw' (fun v h1 hv => ?_) fun _ _ p => p.x⟩
    obtain ⟨b, eb, hz⟩ := tru_wp hv
    subst eb
    clear hv
    rename _ => hv
    refine ⟨b, rfl, fun ρ1 H1 le1 sim1 => ?_⟩
    cases b with
    | false =>
      rw [if_neg Bool.false_ne_true] at hv ⊢
      exact PostF.now (PostF.from le1 hv) sim1 (se'.mono le1)
    | true =>
      rw [if_pos rfl] at hv ⊢
      rw [Res.wp_bind] at hv
      refine ⟨_, fun σ'' H'' z => ⟨k, Nat.lt_succ_self _, z⟩, ρ1, h1, env', sim1, se'.mono le1, Res.wp_mono hv (fun p h4 hp ρ4 H4 σ4 le4 sim4 se4 => ?_) fun c h4 z => z.from le1⟩
      obtain ⟨f, env4⟩ := p
      have leF := le1.trans le4
      cases f with
      | next => exact ⟨ρ4, h4, env4, sim4, se4, Res.wp_mono hp (fun z h6 p => p.from leF) fun c h6 p => p.from leF⟩
      | cont => exact ⟨ρ4, h4, env4, sim4, se4, Res.wp_mono hp (fun z h6 p => p.from leF) fun c h6 p => p.from leF⟩
      | ret v => exact PostF.now (PostF.from leF hp) sim4 se4
theorem psl_while {c : Expr} {body : List Stmt} {tc : Env → Hq → Res PV} {tb : Env → Hq → Rs} {wf : Nat} {pos : Pos} (hp : PassesOwn (model X.prog X.w) X.A X.env X.xe) (hc : PT X c (LT X.K cA W tc)) (hb : PSs X body (LS X.K cA W tb)) :
    PS X (.While c body [] pos) (LS X.K cA W fun env h => whileLoop (fun env h => (tc env h).bind fun v h1 => tru v h1) tb wf env h) := psI (ps_while hp hc hb) fun D σ H q => while_imp q
/-- raise X('..') -/
theorem psl_raise {c : Nat} {e : Expr} {pos : Pos} (hc : X.calm = true) (tk : Takes X W) (he : PMk X e (fun _ H Q => Q (.ref (cA c)) none H)) : PS X (.Raise (some e) none pos) (LS X.K cA W fun env h => .exc c h) := psI (ps_raise hc tk he) fun D σ H q => by
  obtain ⟨ρ, h, env, sim, se, hw⟩ := q
  exact hw ρ H σ Le.refl sim
/-! ### name op= e -/
theorem varF_wp {o : Option (Option PV)} {h : Hq} {P : PV → Hq → Prop} {E : Nat → Hq → Prop} (q : (varF o h).wp P E) : ∃ v, o = some (some v) ∧ P v h := by
  cases o with
  | none => exact q.elim
  | some o =>
    cases o with
    | none => exact q.elim
    | some v => exact ⟨v, rfl, q⟩
theorem aug_addS : OpR X (inplaceOp .Add) (L2f X.K cA (augS .add)) := by
  intro pins s σ H x y v u Q I rx ry hh
  obtain ⟨ρ, h, a, b, E, sim, ra, rb, hw⟩ := hh
  cases a <;> try exact hw.elim
  · cases b <;> try exact hw.elim
    obtain rfl := ra.int_inv
    obtain rfl := rb.int_inv
    exact iop_add pins s σ H _ _ v u Q I rx ry ⟨_, _, rfl, rfl, PostV.now hw sim (.int _)⟩
  · cases b <;> try exact hw.elim
    rename_i r q
    obtain rfl := ra.ref_inv
    obtain rfl := rb.ref_inv
    have hw : Res.wp (match h.get r with
      | some (.lst xs) => match h.get q with
        | some (.lst ys) => if le' (xs.length + ys.length) SL = true then Res.ret (.ref r) (h.set r (.lst (xs ++ ys))) else Res.fail
        | _ => Res.fail
      | _ => Res.fail) (PostV X.K cA ρ h H Q) E := hw
    split at hw
    · rename_i xs g
      split at hw
      · rename_i ys g2
        split at hw
        · rename_i hz
          obtain ⟨vs, h1, r1⟩ := sim.obj _ _ g
          obtain ⟨ws, h2, r2⟩ := sim.obj _ _ g2
          refine iop_ext pins s σ H _ _ v u Q I rx ry ⟨ρ r, ρ q, vs, ws, rfl, rfl, h1, h2, by rw [← r1.length, ← r2.length]; exact le_of hz, ?_⟩
          have wr : Wr (H (ρ r)) := by rw [h1]; trivial
          have lew := le_wr (K := X.K) (ρ := ρ) (n := h.n) (u := .lst (vs ++ ws)) wr
          exact hw ρ _ _ lew (sim.write g rfl rfl wr ⟨vs ++ ws, upd_same, (r1.mono lew).append (r2.mono lew)⟩) (.ref (show r < h.n from Hq.get_lt g) rfl)
        · exact hw.elim
      · exact hw.elim
    · exact hw.elim
theorem psl_aug {i : Nat} {x : Str} {e : Expr} {te : Env → Hq → Res PV} {op : Operator} {f : Hq → PV → PV → Res PV} {pos pos' : Pos} (hN : X.N.Nodup) (hi : X.N[i]? = some x) (hx : Loc X.env.scope x) (he : PE X e (LE X.K cA W te)) (ho : PIp X op (L2f X.K cA f)) (hf : X.fn x = true ∨ X.env.scope.names.lookup x = some .local) :
    PS X (.AugAssign (.Name x pos') op e pos) (LS X.K cA W fun env h => (varF env[i]? h).bind fun v h => (te env h).bind fun w h1 => (f h1 v w).bind fun u h2 => .ret (.next, env.set i (some u)) h2) := psI (ps_aug hN hi hx he ho hf) fun D σ H q => by
  obtain ⟨ρ, h, env, sim, se, hw⟩ := q
  rw [Res.wp_bind] at hw
  obtain ⟨v, ev, hw⟩ := varF_wp hw
  obtain ⟨u, eu, ru⟩ := se.2 i v ev
  rw [Res.wp_bind] at hw
  refine ⟨u, eu, ρ, h, env, sim, se, Res.wp_mono hw (fun w h1 hv ρ1 H1 u1 le1 sim1 r1 => ?_) fun _ _ p => p.x⟩
  rw [Res.wp_bind] at hv
  refine ⟨ρ1, h1, v, w, _, sim1, ru.mono le1, r1, Res.wp_mono hv (fun z h2 hz ρ2 H2 u2 le2 sim2 r2 => ?_) fun _ _ p => p⟩
  exact PostF.now (PostF.from (le1.trans le2) hz) sim2 ((se.mono (le1.trans le2)).set i r2)
/-! ### o[i] = v -/
theorem dPut_of {K : PySem.W.Frag} {ρ : Nat → Addr} {n : Nat} {H : Hp} {b : PV} {l : Key} (rb : KeyR b l) {v : PV} {u : V} (rv : Rep K ρ n H v u) {kvs : List (PV × PV)} {kw : List (Key × V)} (r : RepK K ρ n H kvs kw) : RepK K ρ n H (dPut kvs b v) (putK kw l u) := by
  have any : ∀ {kvs : List (PV × PV)} {kw : List (Key × V)}, RepK K ρ n H kvs kw → (kvs.any fun kv => keyEq kv.1 b) = kw.any fun kv => decide (kv.1 = l) := by
    intro kvs kw r
    induction r with
    | nil => rfl
    | cons p t ih => rw [List.any_cons, List.any_cons, keyEq_of p.1 rb, ih]
  have mp : ∀ {kvs : List (PV × PV)} {kw : List (Key × V)}, RepK K ρ n H kvs kw → RepK K ρ n H (kvs.map fun kv => if keyEq kv.1 b = true then (kv.1, v) else kv) (kw.map fun kv => if kv.1 = l then (kv.1, u) else kv) := by
    intro kvs kw r
    induction r with
    | nil => exact .nil
    | cons p t ih =>
      rw [List.map_cons, List.map_cons]
      refine .cons ?_ ih
      have ke := keyEq_of p.1 rb
      rename_i pa pb _ _
      cases hd : decide (pb.1 = l) with
      | true => rw [hd] at ke; rw [if_pos ke, if_pos (of_decide_eq_true hd)]; exact ⟨p.1, rv⟩
      | false => rw [hd] at ke; rw [if_neg (by rw [ke]; exact Bool.false_ne_true), if_neg (of_decide_eq_false hd)]; exact p
  unfold dPut putK
  rw [any r]
  by_cases e : (kw.any fun kv => decide (kv.1 = l)) = true
  · rw [if_pos e, if_pos e]; exact mp r
  · rw [if_neg e, if_neg e]
    have app : ∀ {kvs : List (PV × PV)} {kw : List (Key × V)}, RepK K ρ n H kvs kw → RepK K ρ n H (kvs ++ [(b, v)]) (kw ++ [(l, u)]) := by
      intro kvs kw r
      induction r with
      | nil => exact .cons ⟨rb, rv⟩ .nil
      | cons p t ih => exact .cons p ih
    exact app r
theorem RepK.length {K : PySem.W.Frag} {ρ : Nat → Addr} {n : Nat} {H : Hp} {kvs : List (PV × PV)} {kw : List (Key × V)} (r : RepK K ρ n H kvs kw) : kvs.length = kw.length := by
  induction r with
  | nil => rfl
  | cons p t ih => rw [List.length_cons, List.length_cons, ih]
def Set3 (K : PySem.W.Frag) (cA : Nat → Addr) : TSet := fun o i v H Q => ∃ ρ h a b c h', Sim K cA ρ h H ∧ Rep K ρ h.n H a o ∧ Rep K ρ h.n H b i ∧ Rep K ρ h.n H c v ∧ setIdx h a b c = some h' ∧ ∀ H', Le K ρ h.n H ρ h'.n H' → Sim K cA ρ h' H' → Q H'
theorem set_S (hu : X.A.units + 65 < cLine) : PSet X (Set3 X.K cA) := by
  intro pins s σ H o i v ov iv u Q I ro ri rv hh
  obtain ⟨ρ, h, a, b, c, h', sim, ra, rb, rc, e, k⟩ := hh
  cases a <;> try cases e
  rename_i r
  obtain rfl := ra.ref_inv
  have e : setO h r b c (h.get r) = some h' := e
  cases g : h.get r with
  | none => rw [g] at e; cases e
  | some o =>
  rw [g] at e
  cases o <;> try cases e
  · rename_i xs
    obtain ⟨vs, h1, r1⟩ := sim.obj _ _ g
    have e : setL h r xs c b = some h' := e
    cases b <;> try cases e
    rename_i j _ _
    obtain rfl := rb.int_inv
    have e : (if (decide (0 ≤ j) && le' (j.toNat + 1) xs.length) = true then some (h.set r (.lst (xs.set j.toNat c))) else none) = some h' := e
    split at e
    · rename_i hb
      rw [Bool.and_eq_true, decide_eq_true_eq] at hb
      have hb2 := le_of hb.2
      cases e
      have wr : Wr (H (ρ r)) := by rw [h1]; trivial
      have lew := le_wr (K := X.K) (ρ := ρ) (n := h.n) (u := .lst (vs.set j.toNat v)) wr
      refine set_list pins s σ H _ _ v ov iv u Q I ro ri rv ⟨ρ r, vs, j, j.toNat, rfl, rfl, h1, ?_, k _ lew (sim.write g rfl rfl wr ⟨_, upd_same, (r1.mono lew).set _ (rc.mono lew)⟩)⟩
      have hl := r1.length
      unfold ixN
      rw [if_pos (by omega)]
      rw [if_pos (by omega)]
    · cases e
  · rename_i kvs
    obtain ⟨kw, h1, r1⟩ := sim.obj _ _ g
    have e : setD h r kvs b c = some h' := e
    unfold setD at e
    split at e
    · rename_i hb
      rw [Bool.and_eq_true] at hb
      have hb2 := le_of hb.2
      cases e
      obtain ⟨key, kr, rfl⟩ := isKey_rep rb hb.1
      cases ro
      have wr : Wr (H (ρ r)) := by rw [h1]; trivial
      have lew := le_wr (K := X.K) (ρ := ρ) (n := h.n) (u := .dK (putK kw key v)) wr
      exact d_setItem (by omega) I (DPut.k h1 (by rw [← r1.length]; exact hb2)) ri rv fun s' I' => ⟨_, I', k _ lew (sim.write g rfl rfl wr ⟨_, upd_same, dPut_of kr (rc.mono lew) (r1.mono lew)⟩)⟩
    · cases e
theorem hqF_wp {env : Env} {o : Option Hq} {P : Flow × Env → Hq → Prop} {E : Nat → Hq → Prop} (q : (hqF env o).wp P E) : ∃ h, o = some h ∧ P (.next, env) h := by
  cases o with
  | none => exact q.elim
  | some s => exact ⟨s, rfl, q⟩
theorem psl_seti {o i e : Expr} {to ti te : Env → Hq → Res PV} {pos pos' : Pos} (hu : X.A.units + 65 < cLine) (ho : PE X o (LE X.K cA W to)) (hi : PE X i (LE X.K cA W ti)) (he : PE X e (LE X.K cA W te))
    (ha : ∀ v, assign (.Subscript o i pos') X.env v = (do
      let ov ← holding [v] (eval o X.env)
      let iv ← holding [v, ov] (eval i X.env)
      standAt pos'
      holding [v, ov, iv] (setItem ov iv v)
      release [v, ov, iv] [])) (hs : swapsWithSole [.Subscript o i pos'] e pos.line X.env = pure false) (hw : swappedStores [.Subscript o i pos'] e X.env = pure none)
    (h1 : (assignEach [.Subscript o i pos'] X.env).map (·.2) = [assign (.Subscript o i pos') X.env]) :
    PS X (.Assign [.Subscript o i pos'] e pos) (LS X.K cA W fun env h => (te env h).bind fun v h1 => (to env h1).bind fun w h2 => (ti env h2).bind fun k h3 => hqF env (setIdx h3 w k v)) :=
  psI (ps_asg he (pg_sub ho hi (set_S (cA := cA) hu) ha) hs hw h1) fun D σ H q => by
    obtain ⟨ρ, h, env, sim, se, hw⟩ := q
    rw [Res.wp_bind] at hw
    refine ⟨ρ, h, env, sim, se, Res.wp_mono hw (fun v h1 hv ρ1 H1 u1 le1 sim1 r1 => ?_) fun _ _ p => p.x⟩
    rw [Res.wp_bind] at hv
    refine ⟨ρ1, h1, env, sim1, se.mono le1, Res.wp_mono hv (fun w h2 hw2 ρ2 H2 u2 le2 sim2 r2 => ?_) fun c h2 p => (PostZ.from le1 p).x⟩
    rw [Res.wp_bind] at hw2
    have l2 := le1.trans le2
    refine ⟨ρ2, h2, env, sim2, se.mono l2, Res.wp_mono hw2 (fun k h3 hk ρ3 H3 u3 le3 sim3 r3 => ?_) fun c h3 p => (PostZ.from l2 p).x⟩
    obtain ⟨h4, e4, p⟩ := hqF_wp hk
    have l3 := l2.trans le3
    refine ⟨ρ3, h3, w, k, v, h4, sim3, r2.mono le3, r3, r1.mono (le2.trans le3), e4, fun H4 le4 sim4 => ?_⟩
    have l4 := l3.trans le4
    exact PostF.now (PostF.from l4 p) sim4 (se.mono l4)
end
end MP

namespace MP
open PySem PySem.Spec PyProof.Rows L2
section
variable {X : Cx} {cA : Nat → Addr} {W : WX}
theorem rangeI_rep {K : PySem.W.Frag} {ρ : Nat → Addr} {n : Nat} {H : Hp} : ∀ (m : Nat) (a : Int), RepL K ρ n H (rangeI m a 1) ((List.range m).map fun i => V.int (a + (i : Nat)))
  | 0, _ => .nil
  | m + 1, a => by
    rw [List.range_succ_eq_map, List.map_cons, List.map_map]
    have e : ((fun i : Nat => V.int (a + (i : Nat))) ∘ Nat.succ) = fun i : Nat => V.int (a + 1 + (i : Nat)) := by
      funext i
      show V.int (a + ((i + 1 : Nat) : Int)) = V.int (a + 1 + (i : Int))
      congr 1
      omega
    rw [e]
    have q := rangeI_rep (K := K) (ρ := ρ) (n := n) (H := H) m (a + 1)
    exact .cons (by have : a + ((0 : Nat) : Int) = a := by omega
                    rw [this]; exact .int a) q
theorem listRg_ok {K : PySem.W.Frag} {ρ : Nat → Addr} {h : Hq} {H : Hp} {Q : VK} {E : Nat → Hq → Prop} {vs : List PV} {a b : Int} (sim : Sim K cA ρ h H) (hr : rangeS vs = some (rangeI (b - a).toNat a 1)) (ha : small62 a = true) (hb : small62 b = true)
    (hw : (biS .listRange h vs).wp (PostV K cA ρ h H Q) E) : RgOk a b ∧ ∀ q, H q = none → Q (.ref q) (upd H q (.lst (rgV a b))) := by
  unfold biS at hw
  simp only [hr] at hw
  obtain ⟨hl, hw⟩ := okIf_wp hw
  have hl := le_of hl
  rw [rangeI_len] at hl
  exact ⟨⟨(small62_iff ha).1, (small62_iff ha).2, (small62_iff hb).1, (small62_iff hb).2, hl⟩, fun q hq => PostV.lst hw sim (rangeI_rep _ _) hq⟩
theorem pl_listRg1 {a : Expr} {t : Env → Hq → Res PV} {p p2 pos pos2 : Pos} (hcm : X.calm = true) (hg : Gl X "list") (hm : X.mg "list" = none) (hg2 : Gl X "range") (hm2 : X.mg "range" = none) (ha : PE X a (LE X.K cA W t))
    (na2 : starEach [a] X.env = (false, eval a X.env) :: starEach [] X.env) (na : starEach [.Call (.Name "range" p2) [a] [] pos2] X.env = (false, eval (.Call (.Name "range" p2) [a] [] pos2) X.env) :: starEach [] X.env) :
    PE X (.Call (.Name "list" p) [.Call (.Name "range" p2) [a] [] pos2] [] pos) (LE X.K cA W fun env h => (t env h).bind fun v h1 => biS .listRange h1 [v]) :=
  peI (pe_listRg hcm hg hm (prg_1 hg2 hm2 ha na2) na) fun σ H Q q => (LE.bind (f := fun v _ h1 => biS .listRange h1 [v]) q).imp fun x H1 p => by
    obtain ⟨ρ, h, env, v, sim, se, r, hw⟩ := p
    cases v with
    | int n =>
      obtain rfl := r.int_inv
      by_cases hs : small62 n = true
      · have e : rangeS [.int n] = some (rangeI n.toNat 0 1) := if_pos hs
        have e0 : (n - 0).toNat = n.toNat := by rw [Int.sub_zero]
        exact ⟨n, rfl, listRg_ok sim (by rw [e0]; exact e) (by decide) hs hw⟩
      · have e : rangeS [.int n] = none := if_neg hs
        unfold biS at hw
        simp only [e] at hw
        exact hw.elim
    | _ => exact hw.elim
theorem pl_listRg2 {a b : Expr} {t u : Env → Hq → Res PV} {p p2 pos pos2 : Pos} (hcm : X.calm = true) (hg : Gl X "list") (hm : X.mg "list" = none) (hg2 : Gl X "range") (hm2 : X.mg "range" = none) (ha : PE X a (LE X.K cA W t)) (hb : PE X b (LE X.K cA W u))
    (na2 : starEach [a, b] X.env = (false, eval a X.env) :: starEach [b] X.env) (nb2 : starEach [b] X.env = (false, eval b X.env) :: starEach [] X.env) (hp2 : (backTo pos2 (starEach [b] X.env)).any (·.1) = false)
    (na : starEach [.Call (.Name "range" p2) [a, b] [] pos2] X.env = (false, eval (.Call (.Name "range" p2) [a, b] [] pos2) X.env) :: starEach [] X.env) :
    PE X (.Call (.Name "list" p) [.Call (.Name "range" p2) [a, b] [] pos2] [] pos) (LE X.K cA W fun env h => (t env h).bind fun v h1 => (u env h1).bind fun w h2 => biS .listRange h2 [v, w]) :=
  peI (pe_listRg hcm hg hm (prg_2 hg2 hm2 ha hb na2 nb2 hp2) na) fun σ H Q q => by
    have q2 : LE X.K cA W t σ H fun x H1 => LE X.K cA W u σ H1 fun y H2 => L2f X.K cA (fun h2 v w => biS .listRange h2 [v, w]) x y H2 Q := LE.bind2 (f := fun h2 v w => biS .listRange h2 [v, w]) q
    refine q2.imp fun x H1 p1 => p1.imp fun y H2 p2 => ?_
    obtain ⟨ρ, h, v, w, E, sim, r, r2, hw⟩ := p2
    cases v with
    | int n =>
      cases w with
      | int m =>
        obtain rfl := r.int_inv
        obtain rfl := r2.int_inv
        by_cases hs : (small62 n && small62 m) = true
        · have e : rangeS [.int n, .int m] = some (rangeI (m - n).toNat n 1) := if_pos hs
          rw [Bool.and_eq_true] at hs
          exact ⟨n, m, rfl, rfl, listRg_ok sim e hs.1 hs.2 hw⟩
        · have e : rangeS [.int n, .int m] = none := if_neg hs
          unfold biS at hw
          simp only [e] at hw
          exact hw.elim
      | _ => exact hw.elim
    | _ => cases w <;> exact hw.elim
end
end MP

/-! displays of dicts, list.count, dict.get, isinstance of caught errors, try -/
namespace MP
open PySem PySem.Spec PyProof.Rows L2
section
variable {X : Cx} {cA : Nat → Addr} {W : WX}
/-! ### list.count -/
theorem count_eqU {x : V} : ∀ {xs : List V} {us : List Value}, Vals xs us → xs.all flatV = true → us.countP (eqU x) = xs.countP fun y => L2.eqV y x
  | _, _, .nil, _ => rfl
  | _, _, .cons r t, f => by
    rw [List.all_cons, Bool.and_eq_true] at f
    rw [List.countP_cons, List.countP_cons, eqU_of r f.1, count_eqU t f.2]
theorem mt_countV : MtR X "list.count" (fun x xs H Q => ∃ (a : Addr) (ys : List V) (y : V), x = .ref a ∧ xs = [y] ∧ SqL X.K H a ys ∧ flatV y = true ∧ ys.all flatV = true ∧ Q (.int ((ys.countP fun z => L2.eqV z y) : Nat)) H) := by
  intro pins s σ H x xs v us Q I rx rxs h
  obtain ⟨p, ys, y, rfl, rfl, hs, fy, fys, q⟩ := h
  cases rx
  obtain ⟨u, rfl, ru⟩ := rxs.one
  obtain ⟨its, rv, ⟨⟨cls, dd, data, sl⟩, n, ho, hc, hdn, hd⟩, hlen⟩ := I.list hs
  simp only at hc hd
  subst hc hd
  refine call_meets PySem.F.slot_list_count ⟨_, ho, rfl⟩ PySem.F.entry_list_count (PySem.F.args_list_count_2 _ _)
    (SeqAt.list_countAt p its.toArray n dd sl u (eqU y)) ⟨ho, fun u' hu' => mem_eqAt ru fy rv fys u' (by simpa using hu'), ?_⟩
  have ec : its.toArray.toList.countP (eqU y) = ys.countP fun z => L2.eqV z y := count_eqU rv fys
  refine ⟨.int ((ys.countP fun z => L2.eqV z y) : Nat), H, I.tok _, ⟨s.toks, ?_⟩, q⟩
  show Value.int ((its.toArray.toList.countP (eqU y) : Nat) : Int) s.toks = _
  rw [ec]
theorem count_of {K : PySem.W.Frag} {ρ : Nat → Addr} {n : Nat} {H : Hp} {b : PV} {y : V} (rb : Rep K ρ n H b y) (fb : flat b = true) : ∀ {zs : List PV} {vs : List V}, RepL K ρ n H zs vs → zs.all flat = true → (vs.countP fun z => L2.eqV z y) = zs.countP fun z => eqF z b
  | [], _, .nil, _ => rfl
  | z :: zs, _, .cons r t, f => by
    rw [List.all_cons, Bool.and_eq_true] at f
    rw [List.countP_cons, List.countP_cons, eqV_of r rb f.1 fb, count_of rb fb t f.2]
theorem mt_countLS : MtR X "list.count" (Lmf X.K cA (mtS .countL)) := by
  intro pins s σ H x xs v us Q I rx rs hh
  obtain ⟨ρ, h, a, as, E, sim, ra, rl, hw⟩ := hh
  cases a <;> try exact hw.elim
  rename_i q
  obtain rfl := ra.ref_inv
  match as, rl, hw with
  | [], rl, hw => exact hw.elim
  | _ :: _ :: _, rl, hw => exact hw.elim
  | [b], rl, hw =>
    obtain ⟨y, rfl, ry⟩ := rl.one_inv
    simp only [mtS] at hw
    split at hw
    · rename_i zs g
      obtain ⟨hl, hw⟩ := okIf_wp hw
      rw [Bool.and_eq_true] at hl
      obtain ⟨vs, t, rr⟩ := sim.getL g
      refine mt_countV pins s σ H _ _ v us Q I rx rs ⟨_, vs, y, rfl, rfl, t, flatV_of ry hl.1, flats_of rr hl.2, ?_⟩
      rw [count_of ry hl.1 rr hl.2]
      exact PostV.now hw sim (.int _)
    · exact hw.elim
/-! ### dict.get with a default -/
theorem mt_getS (hu : X.A.units + 1 < cLine) : MtR X "dict.get" (Lmf X.K cA (mtS .get)) := by
  intro pins s σ H x xs v us Q I rx rs hh
  obtain ⟨ρ, h, a, as, E, sim, ra, rl, hw⟩ := hh
  cases a <;> try exact hw.elim
  rename_i q
  obtain rfl := ra.ref_inv
  match as, rl, hw with
  | [], rl, hw => exact hw.elim
  | [_], rl, hw => exact hw.elim
  | _ :: _ :: _ :: _, rl, hw => exact hw.elim
  | [k, d], rl, hw =>
    obtain ⟨y, z, rfl, ry, rz⟩ := rl.two_inv
    simp only [mtS] at hw
    split at hw
    · rename_i kvs g
      obtain ⟨hl, hw⟩ := okIf_wp hw
      obtain ⟨kw, hk, rk⟩ := sim.obj _ _ g
      obtain ⟨l, kr, rfl⟩ := isKey_rep ry hl
      cases rx
      cases rs with
      | cons r1 rs =>
        cases rs with
        | cons r2 rs =>
          cases rs
          refine d_get2 hu I (DGet.k (k := l) hk) r1 r2 fun w' s' I' rw' => ⟨_, H, I', rw', ?_⟩
          have dg := dGet_of kr rk
          cases e : dGet kvs k with
          | none =>
            rw [e] at hw
            rw [dg.2 e]
            exact PostV.now hw sim rz
          | some u =>
            obtain ⟨w, e2, r3⟩ := dg.1 u e
            rw [e] at hw
            rw [e2]
            exact PostV.now hw sim r3
    · exact hw.elim
/-! ### isinstance of caught exceptions -/
structure EF (n : Nat) (K : PySem.W.Frag) (cA : Nat → Addr) : Prop where
  ec : ∀ c, c < n → L2.ExcC K (cA c)
  es : ∀ c d, c < n → d < n → PySem.W.kitOne K (.ref (cA c)) (.ref (cA d)) = some (isaE c d)
  ev : ∀ c, c < n → PySem.W.kitOne K (.ref (cA c)) (.type "ValueError") = some true
  em : ∀ c, c < n → PySem.W.exmOne K (.ref (cA c)) (.ref (cA 0)) = some true
theorem isinC_inv {h : Hq} {v : PV} {d n : Nat} {b : Bool} (e : isinC h v d n = some b) : ∃ r c, v = .ref r ∧ h.get r = some (.exc c) ∧ c < n ∧ b = isaE c d := by
  cases v <;> try cases e
  rename_i r
  simp only [isinC] at e
  split at e
  · rename_i c g
    split at e
    · rename_i hc
      cases e
      exact ⟨r, c, rfl, g, Nat.le_of_ble_eq_true hc, rfl⟩
    · cases e
  · cases e
theorem cr_isinC {n d : Nat} (F : EF n X.K cA) : CallR X (.builtin "isinstance") (fun xs H Q => ∃ ρ h v x y cv E, xs = [x, y] ∧ (∀ u, RelV y u → u = cv) ∧ (∀ c, c < n → PySem.W.kitOne X.K (.ref (cA c)) cv = some (isaE c d)) ∧ Sim X.K cA ρ h H ∧ Rep X.K ρ h.n H v x ∧ (ofB h (isinC h v d n)).wp (PostV X.K cA ρ h H Q) E) := by
  intro pins s σ H xs us Q I r hh
  obtain ⟨ρ, h, v, x, y, cv, E, rfl, hy, hk, sim, rx, hw⟩ := hh
  obtain ⟨b, e, hw⟩ := ofB_wp hw
  obtain ⟨q, c, rfl, g, hc, rfl⟩ := isinC_inv e
  obtain rfl := rx.ref_inv
  cases r with
  | cons rx rr =>
    cases rr with
    | cons rt rr =>
      cases rr
      cases rx
      have ec := hy _ rt
      subst ec
      have ho : H (ρ q) = some (ExT (cA c) (ρ q)) := sim.obj _ _ g
      obtain ⟨⟨oe, vs, hget, hz, hv⟩, _, _⟩ := I.hok _ _ ho
      have J : PySem.W.InstAt s.heap (ρ q) oe (cA c) none := by
        obtain ⟨oc, od, oda, osl⟩ := oe
        obtain ⟨h1, h2⟩ := hz
        dsimp only at h1 h2 hv
        subst h1 h2 hv
        exact ⟨hget, rfl, rfl, trivial⟩
      have C := F.ec c hc
      exact PySem.W.kia_one (PySem.W.handS_kitx_exc C.hg C.hk C.hs C.hd C.ha C.hn C.ht C.hm) I.kIn J (hk c hc) (fun z => nomatch z) fun tk => ⟨.bl (isaE c d), H, I.kept (t' := tk) fun _ _ z => z, rfl, PostV.now hw sim (.bl _)⟩
theorem pl_isinC {n d : Nat} {isa : Nat → Nat → Bool} {a : Expr} {ta : Env → Hq → Res PV} {p p2 pos : Pos} {x : Str} (F : EF n X.K cA) (hd : d < n) (hg : Gl X "isinstance") (hm : X.mg "isinstance" = none) (hx : Gl X x) (hmx : X.mg x = some (.ref (cA d))) (hdx : (x == ("__debug__" : Str)) = false) (ha : PE X a (LE X.K cA W ta))
    (he : starEach [a, .Name x p2] X.env = (false, eval a X.env) :: starEach [.Name x p2] X.env) (hpl : (backTo pos (starEach [.Name x p2] X.env)).any (·.1) = false) :
    PE X (.Call (.Name "isinstance" p) [a, .Name x p2] [] pos) (LE X.K cA W fun env h => (ta env h).bind fun v h1 => ofB h1 (isinC h1 v d n)) := by
  refine peI (pe_callB (cr_isinC (d := d) F) hg hm (by decide +kernel) (pa_cons ha (pa_cons (pe_glob (v := .ref (cA d)) hx hmx rfl hdx) pa_nil (by rfl)) he) (by decide) (by decide) he hpl) fun σ H Q q => ?_
  refine (LE.bind (f := fun v _ h1 => ofB h1 (isinC h1 v d n)) q).imp fun x H1 p => ?_
  obtain ⟨ρ, h, env, v, sim, se, r, hw⟩ := p
  exact ⟨ρ, h, v, x, .ref (cA d), .ref (cA d), _, rfl, fun u r => r, fun c hc => F.es c d hc hd, sim, r, hw⟩
theorem pl_isinV {n : Nat} {isa : Nat → Nat → Bool} {a : Expr} {ta : Env → Hq → Res PV} {p p2 pos : Pos} (F : EF n X.K cA) (hg : Gl X "isinstance") (hm : X.mg "isinstance" = none) (hx : Gl X "ValueError") (hmx : X.mg "ValueError" = none) (ha : PE X a (LE X.K cA W ta))
    (he : starEach [a, .Name "ValueError" p2] X.env = (false, eval a X.env) :: starEach [.Name "ValueError" p2] X.env) (hpl : (backTo pos (starEach [.Name "ValueError" p2] X.env)).any (·.1) = false) :
    PE X (.Call (.Name "isinstance" p) [a, .Name "ValueError" p2] [] pos) (LE X.K cA W fun env h => (ta env h).bind fun v h1 => ofB h1 (isinC h1 v 99 n)) := by
  refine peI (pe_callB (cr_isinC (d := 99) F) hg hm (by decide +kernel) (pa_cons ha (pa_cons (pe_bltn hx hmx (by decide +kernel) (v := .ty "ValueError") rfl (by decide) (by decide)) pa_nil (by rfl)) he) (by decide) (by decide) he hpl) fun σ H Q q => ?_
  refine (LE.bind (f := fun v _ h1 => ofB h1 (isinC h1 v 99 n)) q).imp fun x H1 p => ?_
  obtain ⟨ρ, h, env, v, sim, se, r, hw⟩ := p
  refine ⟨ρ, h, v, x, .ty "ValueError", .type "ValueError", _, rfl, fun u r => r, fun c hc => ?_, sim, r, hw⟩
  rw [F.ev c hc]
  congr 1
  show true = (Nat.beq c 99 || Nat.beq 99 0 || true)
  rw [Bool.or_true]
/-! ### displays of dicts -/
/-- pairs, one behind the other -/
def flatP : List (V × V) → List V
  | [] => []
  | p :: r => p.1 :: p.2 :: flatP r
def LP (K : PySem.W.Frag) (cA : Nat → Addr) (W : WX) (t : Env → Hq → Res (List PV)) : L2.St → Hp → (List (V × V) → Hp → Prop) → Prop := fun σ H Q => ∃ ρ h env, Sim K cA ρ h H ∧ SimE K ρ h.n H env σ ∧
  (t env h).wp (fun ws h' => ∀ ρ' H' ps, Le K ρ h.n H ρ' h'.n H' → Sim K cA ρ' h' H' → RepL K ρ' h'.n H' ws (flatP ps) → Q ps H') (PostX K cA ρ h H W σ)
theorem lp_nil {K : PySem.W.Frag} {σ : L2.St} {H : Hp} {Q : List (V × V) → Hp → Prop} (q : LP K cA W (fun _ h => .ret [] h) σ H Q) : Q [] H := by
  obtain ⟨ρ, h, env, sim, se, hw⟩ := q
  exact hw ρ H [] Le.refl sim .nil
theorem lp_cons {K : PySem.W.Frag} {ta tb : Env → Hq → Res PV} {t : Env → Hq → Res (List PV)} {σ : L2.St} {H : Hp} {Q : List (V × V) → Hp → Prop}
    (q : LP K cA W (fun env h => (ta env h).bind fun v h1 => ((tb env h1).bind fun w h2 => (t env h2).bind fun vs h3 => .ret (w :: vs) h3).bind fun vs h2 => .ret (v :: vs) h2) σ H Q) :
    LE K cA W ta σ H fun x H1 => LE K cA W tb σ H1 fun y H2 => LP K cA W t σ H2 fun ps H3 => Q ((x, y) :: ps) H3 := by
  obtain ⟨ρ, h, env, sim, se, hw⟩ := q
  simp only [Res.wp_bind, Res.wp_ret] at hw
  refine ⟨ρ, h, env, sim, se, Res.wp_mono hw (fun v h1 hv ρ1 H1 u1 le1 sim1 r1 => ?_) fun c h1 hc => hc⟩
  refine ⟨ρ1, h1, env, sim1, se.mono le1, Res.wp_mono hv (fun w h2 hw2 ρ2 H2 u2 le2 sim2 r2 => ?_) fun c h2 hc => hc.from le1⟩
  have l2 := le1.trans le2
  refine ⟨ρ2, h2, env, sim2, se.mono l2, Res.wp_mono hw2 (fun vs h3 hv3 ρ3 H3 ps le3 sim3 r3 => ?_) fun c h3 hc => hc.from l2⟩
  exact hv3 ρ3 H3 ((u1, u2) :: ps) (l2.trans le3) sim3 (.cons (r1.mono (le2.trans le3)) (.cons (r2.mono le3) r3))
/-- the readings of a display's pairs -/
def trsE (P : Prog) (call : Call) (K : PySem.W.Frag) (cA : Nat → Addr) (W : WX) : List MP.E → List (TE × TE)
  | a :: b :: r => (LE K cA W (evE P call a), LE K cA W (evE P call b)) :: trsE P call K cA W r
  | _ => []
def even : List MP.E → Bool
  | [] => true
  | _ :: _ :: r => even r
  | _ => false
theorem lp_all {P : Prog} {call : Call} {K : PySem.W.Frag} : ∀ (As : List MP.E) {σ : L2.St} {H : Hp} {Q : List (V × V) → Hp → Prop}, even As = true → LP K cA W (evEs P call As) σ H Q → tPairs (trsE P call K cA W As) σ H Q
  | [], σ, H, Q, _, q => lp_nil q
  | [_], _, _, _, e, _ => by cases e
  | a :: b :: r, σ, H, Q, e, q => (lp_cons q).imp fun x H1 p => p.imp fun y H2 p => lp_all r e p
theorem pairUp_rep {K : PySem.W.Frag} {ρ : Nat → Addr} {n : Nat} {H : Hp} : ∀ (ps : List (V × V)) {ws : List PV} {kvs : List (PV × PV)}, RepL K ρ n H ws (flatP ps) → pairUp ws = some kvs → (kvs.all fun p => isKey p.1) = true → ∃ kw : List (Key × V), ps = kw.map (fun kv => (kV kv.1, kv.2)) ∧ RepK K ρ n H kvs kw ∧ kw.length = kvs.length
  | [], ws, kvs, r, e, _ => by
    cases r
    cases e
    exact ⟨[], rfl, .nil, rfl⟩
  | (x, y) :: ps, ws, kvs, r, e, hk => by
    cases r with
    | cons r1 r =>
      cases r with
      | cons r2 r =>
        rename_i a b zs
        have e : (pairUp zs).map ((a, b) :: ·) = some kvs := e
        cases e1 : pairUp zs with
        | none => rw [e1] at e; cases e
        | some kvs' =>
          rw [e1] at e
          cases e
          rw [List.all_cons, Bool.and_eq_true] at hk
          obtain ⟨kw, h1, h2, h3⟩ := pairUp_rep ps r e1 hk.2
          obtain ⟨l, kr, rfl⟩ := isKey_rep r1 hk.1
          exact ⟨(l, y) :: kw, by rw [h1]; rfl, .cons ⟨kr, r2⟩ h2, by rw [List.length_cons, List.length_cons, h3]⟩
theorem merge_rep {K : PySem.W.Frag} {ρ : Nat → Addr} {n : Nat} {H : Hp} : ∀ {kvs : List (PV × PV)} {kw : List (Key × V)} {acc : List (PV × PV)} {ac : List (Key × V)}, RepK K ρ n H kvs kw → RepK K ρ n H acc ac → RepK K ρ n H (kvs.foldl (fun a p => dPut a p.1 p.2) acc) (mergeK ac kw) := by
  intro kvs
  induction kvs with
  | nil => intro kw acc ac r a; cases r; exact a
  | cons p kvs ih =>
    intro kw acc ac r a
    cases r with
    | cons r t => have z := ih t (dPut_of r.1 r.2 a); exact z
theorem dispF_inv {r : Nat} {h : Hq} {o : Option (List (PV × PV))} {P : PV → Hq → Prop} {E : Nat → Hq → Prop} (q : (dispF r h o).wp P E) : ∃ kvs, o = some kvs ∧ h.get r = some (.dk []) ∧ (kvs.all fun p => isKey p.1) = true ∧ kvs.length ≤ 15 ∧ P (.ref r) (h.set r (.dk (kvs.foldl (fun a p => dPut a p.1 p.2) []))) := by
  unfold dispF at q
  split at q
  · split at q
    · rename_i kvs _ g
      obtain ⟨hb, q⟩ := okIf_wp q
      rw [Bool.and_eq_true] at hb
      exact ⟨kvs, rfl, g, hb.1, le_of hb.2, q⟩
    · exact q.elim
  · exact q.elim
theorem pl_disp {P : Prog} {call : Call} {keys : List (Option Expr)} {values : List Expr} {A : MP.E} {As : List MP.E} {pos : Pos} (h : PPs X pos keys values (trsE P call X.K cA W (A :: As))) (ev : even (A :: As) = true) (hall : keys.all (·.isSome) = true) (hl : keys.length = values.length) (h0 : keys ≠ []) (h15 : keys.length ≤ 15) :
    PE X (.Dict keys values pos) (LE X.K cA W fun env h => (evEs P call (A :: As) env (h.push (.dk []))).bind fun ws h1 => dispF h.n h1 (pairUp ws)) := by
  refine peI (pe_disp h hall hl h0 h15) fun σ H Q q => ?_
  obtain ⟨ρ, hq, env, sim, se, hw⟩ := q
  rw [Res.wp_bind] at hw
  intro p hp
  have le0 := le_new (K := X.K) (ρ := ρ) (h := hq) (u := .dK []) hp
  have sim0 : Sim X.K cA (extR ρ hq.n p) (hq.push (.dk [])) (upd H p (.dK [])) := sim.push hp ⟨[], upd_same, .nil⟩
  refine lp_all (A :: As) ev ⟨_, _, env, sim0, se.mono le0, Res.wp_mono hw (fun ws h1 hv ρ1 H1 ps le1 sim1 r1 => ?_) fun c h1 hc => hc.from le0⟩
  obtain ⟨kvs, e1, g, hk, hl, P1⟩ := dispF_inv hv
  have ep : ρ1 hq.n = p := by rw [le1.eq hq.n (Nat.lt_succ_self _), extR_self]
  obtain ⟨kw0, hd, rk⟩ := sim1.obj _ _ g
  rw [ep] at hd
  cases rk
  obtain ⟨kw, rfl, rk, hlen⟩ := pairUp_rep ps r1 e1 hk
  refine ⟨hd, kw, rfl, by rw [hlen]; exact hl, ?_⟩
  have wr : Wr (H1 (ρ1 hq.n)) := by rw [ep, hd]; trivial
  have hlt : hq.n < h1.n := Hq.get_lt g
  have rf : ∀ H2, Rep X.K ρ1 h1.n H2 (.ref hq.n) (.ref p) := fun H2 => .ref hlt ep.symm
  have lw := le_wr (K := X.K) (ρ := ρ1) (n := h1.n) (u := .dK (mergeK [] kw)) wr
  have z := P1 ρ1 (upd H1 (ρ1 hq.n) (.dK (mergeK [] kw))) (.ref p) ((le0.trans le1).trans lw) (sim1.write g rfl rfl wr ⟨_, upd_same, (merge_rep rk .nil).mono lw⟩) (rf _)
  rw [ep] at z
  exact z
end
end MP

/-! try: x = e except BindError as n: m = n -/
namespace MP
open PySem PySem.Spec PyProof.Rows L2
section
variable {X : Cx} {pins : List (Addr × Obj)} {σ : L2.St} {H : Hp} {s : Shared}
theorem inv_track {a : Addr} {o : HO} (I : Inv X pins σ H s) (na : H a = none) (n0 : X.s_0.heap.get? a = none) (nL : a ≠ X.env.locals) (nc : ∀ x c, X.env.cells.lookup x = some c → c ≠ a) (np : ∀ p ∈ X.pn ++ pins, p.1 ≠ a) (new : ObjOk X.prog X.w (upd H a o) s.heap a o) : Inv X pins σ (upd H a o) s := by
  refine ⟨I.ok, I.os, I.bare, ⟨I.base.keep, I.base.slot, fun b ob e n hx => ?_, I.base.there, fun b xs q => ?_, fun b ob u q => ?_, fun b ps q => ?_⟩, I.loc, I.cell, ?_, fun x c e => ?_, fun p hp => ?_, fun b u e => ?_, I.len⟩
  · rw [upd_ne (fun z => by rw [z, n0] at e; cases e)]
    exact I.base.free b ob e n hx
  · have q2 := I.base.tups b xs q
    rw [upd_ne (ne_of_none q2 na)]
    exact q2
  · have q2 := I.base.frzs b ob u q
    rw [upd_ne (ne_of_none q2 na)]
    exact q2
  · obtain ⟨m, q2⟩ := I.base.tbls b ps q
    exact ⟨m, by rw [upd_ne (ne_of_none q2 na)]; exact q2⟩
  · rw [upd_ne nL.symm]; exact I.free
  · rw [upd_ne (nc x c e)]; exact I.freeC x c e
  · obtain ⟨e, n, ne, nf, d⟩ := I.pin p hp
    exact ⟨e, by rw [upd_ne (np p hp)]; exact n, ne, nf, d⟩
  · by_cases hb : b = a
    · subst hb
      rw [upd_same] at e
      cases e
      exact new
    · rw [upd_ne hb] at e
      exact (I.hok b u e).stay (fun c v _ q => q) (fun c q => by rw [upd_ne (ne_of_none q na)]; exact q) fun c xs q => by rw [upd_ne (ne_of_none q na)]; exact q
end
/-- what 'except x as n: m = n' wishes: slot i is n's, j is m's -/
def wB (K : PySem.W.Frag) (c : Value) (i j : Nat) (D : Ends) : WX := fun cls d σ H =>
  PySem.W.exmOne K cls c = some true ∧ d = none ∧ ∃ C, cls = .ref C ∧ ∀ a, H a = none → D.nx (((σ.set i (some (.ref a))).set j (some (.ref a))).set i none) (upd H a (ExT C a))
section
variable {X : Cx} {x n m : Str} {c : Value} {i j : Nat} {body : List Stmt} {np nm nv pos pos' pa : Pos} {tb : WX → TS}
theorem ps_try_bind (hex : X.ex = []) (hs : X.stack = X.env :: X.outer) (hf : X.env.frame = some X.env.locals) (hN : X.N.Nodup) (hi : X.N[i]? = some n) (hj : X.N[j]? = some m) (hij : i ≠ j) (hln : X.env.kindOf n = some .local) (hvn : Vis X.env.scope n) (hlm : X.env.scope.names.lookup m = some .local) (hc : Names X x c)
    (hd1 : (n == ("__debug__" : Str)) = false) (hd2 : (n == ("__classdict__" : Str)) = false) (hsw : ∀ (a : Addr) (pn : List (Addr × Obj)), swapsWith (.Name n nv) (some (.Name m nm)) pa.line (X.suite a pn).env = pure false)
    (hb : ∀ (W : WX) (pn : List (Addr × Obj)) (xe : Value → Shared → Prop), Takes (X.tr pn xe) W → PassesOwn (model X.prog X.w) X.A X.env xe → PSs (X.tr pn xe) body (tb W)) :
    PS X (.Try body [.ExceptHandler (some (.Name x np)) (some n) [.Assign [.Name m nm] (.Name n nv) pa] pos'] [] [] pos) (fun D σ H => tb (wB X.K c i j D) D σ H) := by
  refine ⟨fun pins s σ H D I h => ?_⟩
  have ok := I.ok
  have hfr : X.A.frames = some (X.env :: X.outer) := by rw [ok.frames, hs]
  have hloc : Loc X.env.scope n := .inl hln
  refine wpAny_Try_except ?_
  refine wpAny_mono ((hb (wB X.K c i j D) (X.pn ++ pins) (fun e s₁ => wpAny (model X.prog X.w) X.A (noteFrame e X.env) (fun _ s₂ => wpAny (model X.prog X.w) X.A (setFlight e none) (fun _ s₃ =>
    wpAny (model X.prog X.w) X.A (handleBy e X.env [.ExceptHandler (some (.Name x np)) (some n) [.Assign [.Name m nm] (.Name n nv) pa] pos']) (SP X pins D) X.xe s₃) X.xe s₂) X.xe s₁) (fun u s' xx => ?_) PassesOwn.looking).run [] s σ H D (I.toTry _) h) (fun f s1 hsp => ?_) (fun e s1 he => he)
  · obtain ⟨a, B, sI, pins', σ', H', cls, d, rfl, J', nb, up, sky, na, os, ag, hb1, rfl, C, rfl, hyes⟩ := xx
    have J : Inv X pins σ' H' sI := J'.ofTry ok
    have sky' : Sky B (X.env :: X.outer) a (Zc (.ref C) none) X.env.locals s'.heap := by rw [← hs]; exact sky
    show wpAny (model X.prog X.w) X.A (noteFrame (.ref a) X.env) _ _ _
    refine Sky.land Zc.steady hfr hf sky' fun h3 fl3 up3 => ?_
    have J3 : Inv X pins σ' H' { s' with heap := h3 } := J.landed nb fl3.1 (up.trans up3) os ag
    obtain ⟨oe3, vs3, he3, hz3, hd3⟩ := fl3.there
    have notFr : ∀ {h : Heap} {o : Obj} {vs : Array Value}, h.FunFrames B (X.env :: X.outer) → h.get? a = some o → o.data = .fields vs → a ∉ frs (X.env :: X.outer) := fun {h o vs} ff e dd hm => by
      obtain ⟨_, o', e', hnf⟩ := ff.mem hm
      rw [e] at e'; cases e'
      exact hnf _ dd
    have nfr := notFr fl3.2.2.1 he3 hd3
    have nL : a ≠ X.env.locals := fun z => nfr (List.mem_filterMap.mpr ⟨X.env, List.mem_cons_self, by rw [hf, z]⟩)
    have nF : a ∉ X.fs := fun hm => by
      obtain ⟨e, he, q⟩ := List.mem_filterMap.mp hm
      exact nfr (List.mem_filterMap.mpr ⟨e, List.mem_cons_of_mem _ he, q⟩)
    have nfs : a ∉ frs X.stack := by rw [hs]; exact nfr
    -- a is new
    have hB : B.get? a = none := fl3.2.1
    have nI : ∀ b o, sI.heap.get? b = some o → b ≠ a := fun b o e z => by
      rw [z] at e
      have := nb a o e nfs
      rw [hB] at this
      cases this
    have n0 : X.s_0.heap.get? a = none := by
      cases e : X.s_0.heap.get? a with
      | none => rfl
      | some o =>
        obtain ⟨o', e'⟩ := J.base.there a o e (by rw [hex]; exact fun z => nomatch z)
        exact absurd rfl (nI a o' e')
    have np' : ∀ p ∈ X.pn ++ pins, p.1 ≠ a := fun p hp => nI p.1 p.2 (J.pin p hp).1
    have nc : ∀ y k, X.env.cells.lookup y = some k → k ≠ a := fun y k e => by
      obtain ⟨v, o, ho, _⟩ := J.cell y k e
      exact nI k o ho
    have S3 := J3.suite he3 hd3 na nL nF
    refine wpAny_handleBy_cons (codeAny_handlers_test ?_) (by intro q; cases q)
    have LT : PySem.W.Looks (model X.prog X.w) h3 (typeOf (.ref a)) (.ref C) := fun A Q E s k q => wpAny_typeOf_ref (k _ _ he3) (by rw [hz3.1]; exact q)
    have LM := PySem.W.exm_one (M := model X.prog X.w) (J3.kIn) LT hb1
    have test : ∀ {Q : Value → Shared → Prop} {E : Value → Shared → Prop}, Q c { s' with heap := h3 } → wpAny (model X.prog X.w) (X.A.mark (some (.ref a))) (eval (.Name x np) X.env) Q E { s' with heap := h3 } := fun {Q E} q => by
      obtain ⟨hg, hdbg, hm | ⟨hm, hv, hnn⟩⟩ := hc
      · exact ld_glob (X := X.suite a ((a, oe3) :: (X.pn ++ pins))) S3 hg hm q hdbg
      · exact ld_blt (X := X.suite a ((a, oe3) :: (X.pn ++ pins))) S3 hg hm hv q hnn hdbg
    refine test (LM.here ?_)
    refine codeAny_handlers_suite_as ?_
    refine HandSPX.lands_againZ fl3 fun h4 fl4 up4 => ?_
    have J4 : Inv X pins σ' H' { s' with heap := h4 } := J.landed nb fl4.1 ((up.trans up3).trans up4) os ag
    obtain ⟨oe4, vs4, he4, hz4, hd4⟩ := fl4.there
    have S4 := J4.suite he4 hd4 na nL nF
    refine store_ok (X := X.suite a ((a, oe4) :: (X.pn ++ pins))) (v := .ref a) S4 hN hi hloc rfl (fun s5 S5 => ?_) (.inr hln)
    have hsu : PSs (X.suite a ((a, oe4) :: (X.pn ++ pins))) [.Assign [.Name m nm] (.Name n nv) pa] _ := pss_one (ps_set (X := X.suite a ((a, oe4) :: (X.pn ++ pins))) hN hj (.inl hlm) (pe_var hi hvn hd1 hd2) (hsw a _) (.inr hlm))
    refine wpAny_mono (hsu.run [] s5 _ H' { nx := fun σ6 H6 => σ6 = (σ'.set i (some (.ref a))).set j (some (.ref a)) ∧ H6 = H', rt := fun _ _ => False, bk := fun _ _ => False, ct := fun _ _ => False } S5 ?_) (fun f s6 hsp => ?_) (fun _ _ z => False.elim z)
    · have hl : i < σ'.length := by rw [J.len]; exact (List.getElem?_eq_some_iff.mp hi).1
      exact ⟨.ref a, List.getElem?_set_self hl, rfl, rfl⟩
    · cases f with
      | next =>
        obtain ⟨σ6, H6, S6, e6, eH⟩ := hsp
        subst e6
        subst eH
        refine gone_ok (X := X.suite a ((a, oe4) :: (X.pn ++ pins))) (pins := []) S6 hN hi hln fun s7 S7 => ?_
        have p7 := S7.pin (a, oe4) (List.mem_append_left _ List.mem_cons_self)
        have J7 : Inv X pins _ H6 s7 := S7.unsuite ok
        have new : ObjOk X.prog X.w (upd H6 a (ExT C a)) s7.heap a (ExT C a) := ⟨⟨oe4, vs4, p7.1, hz4, hd4⟩, ⟨oe4, p7.1⟩, fun _ _ ⟨o, v, q, r⟩ k => ⟨o, v, k o q, r⟩⟩
        exact ⟨_, _, inv_track J7 na n0 nL nc np' new, hyes a na⟩
      | brk =>
        obtain ⟨σ6, H6, S6, q6⟩ := hsp
        exact q6.elim
      | cont =>
        obtain ⟨σ6, H6, S6, q6⟩ := hsp
        exact q6.elim
      | ret u =>
        obtain ⟨v6, σ6, H6, S6, r6, q6⟩ := hsp
        exact q6.elim
  · cases f with
    | next =>
      obtain ⟨σ', H', J', q⟩ := hsp
      exact wpAny_execs_nil ⟨σ', H', J'.ofTry ok, q⟩
    | brk =>
      obtain ⟨σ', H', J', q⟩ := hsp
      exact ⟨σ', H', J'.ofTry ok, q⟩
    | cont =>
      obtain ⟨σ', H', J', q⟩ := hsp
      exact ⟨σ', H', J'.ofTry ok, q⟩
    | ret u =>
      obtain ⟨v, σ', H', J', r, q⟩ := hsp
      exact ⟨v, σ', H', J'.ofTry ok, r, q⟩
end
/-! ### the body of a try: one value, stored or not -/
def setI (i : Option Nat) (v : V) (σ : L2.St) : L2.St := match i with
  | some i => σ.set i (some v)
  | none => σ
def LX (K : PySem.W.Frag) (cA : Nat → Addr) (W : WX) (i : Option Nat) (t : Env → Hq → Res PV) : TS := fun D σ H => ∃ ρ h env, Sim K cA ρ h H ∧ SimE K ρ h.n H env σ ∧
  (t env h).wp (fun v h' => ∀ ρ' H' u, Le K ρ h.n H ρ' h'.n H' → Sim K cA ρ' h' H' → Rep K ρ' h'.n H' v u → D.nx (setI i u σ) H') (PostX K cA ρ h H W σ)
section
variable {X : Cx} {cA : Nat → Addr} {W : WX}
theorem bl_asg {i : Nat} {x : Str} {e : Expr} {t : Env → Hq → Res PV} {pos pos' : Pos} (hN : X.N.Nodup) (hi : X.N[i]? = some x) (hx : Loc X.env.scope x) (he : PE X e (LE X.K cA W t)) (hs : swapsWith e (some (.Name x pos')) pos.line X.env = pure false) (hf : X.fn x = true ∨ X.env.scope.names.lookup x = some .local) :
    PSs X [.Assign [.Name x pos'] e pos] (LX X.K cA W (some i) t) := pssI (pss_one (ps_set hN hi hx he hs hf)) fun D σ H q => by
  obtain ⟨ρ, h, env, sim, se, hw⟩ := q
  exact ⟨ρ, h, env, sim, se, Res.wp_mono hw (fun v h1 hv ρ1 H1 u1 le1 sim1 r1 => hv ρ1 H1 u1 le1 sim1 r1) fun _ _ p => p⟩
theorem bl_expr {e : Expr} {t : Env → Hq → Res PV} {pos : Pos} (he : PE X e (LE X.K cA W t)) (hs : swapsWith e none pos.line X.env = pure false) : PSs X [.Expr e pos] (LX X.K cA W none t) := pssI (pss_one (ps_expr he hs)) fun D σ H q => by
  obtain ⟨ρ, h, env, sim, se, hw⟩ := q
  exact ⟨ρ, h, env, sim, se, Res.wp_mono hw (fun v h1 hv ρ1 H1 u1 le1 sim1 r1 => hv ρ1 H1 u1 le1 sim1 r1) fun _ _ p => p⟩
theorem bl_if {i : Option Nat} {c : Expr} {a b : List Stmt} {tc ta tb : Env → Hq → Res PV} {pos : Pos} (hc : PT X c (LT X.K cA W tc)) (ha : PSs X a (LX X.K cA W i ta)) (hb : PSs X b (LX X.K cA W i tb)) :
    PSs X [.If c a b pos] (LX X.K cA W i fun env h => (tc env h).bind fun v h1 => ifB v h1 (fun h => ta env h) (fun h => tb env h)) := pssI (pss_one (ps_if hc ha hb)) fun D σ H q => by
  obtain ⟨ρ, h, env, sim, se, hw⟩ := q
  rw [Res.wp_bind] at hw
  refine ⟨ρ, h, env, sim, se, Res.wp_mono hw (fun v h1 hv => ?_) fun _ _ p => p⟩
  cases v <;> try exact hv.elim
  rename_i k
  refine ⟨k, rfl, fun ρ1 H1 le1 sim1 => ?_⟩
  cases k with
  | true => rw [if_pos rfl]; exact ⟨ρ1, h1, env, sim1, se.mono le1, Res.wp_mono hv (fun p h2 z ρ2 H2 u2 l2 => z ρ2 H2 u2 (le1.trans l2)) fun c h2 z => z.from le1⟩
  | false => rw [if_neg Bool.false_ne_true]; exact ⟨ρ1, h1, env, sim1, se.mono le1, Res.wp_mono hv (fun p h2 z ρ2 H2 u2 l2 => z ρ2 H2 u2 (le1.trans l2)) fun c h2 z => z.from le1⟩
theorem psl_try {ne : Nat} {i : Option Nat} {jn jm : Nat} {x n m : Str} {body : List Stmt} {np nm nv pos pos' pa : Pos} {t : Env → Hq → Res PV} (F : EF ne X.K cA) (hex : X.ex = []) (hs : X.stack = X.env :: X.outer) (hf : X.env.frame = some X.env.locals) (hN : X.N.Nodup) (hi : X.N[jn]? = some n) (hj : X.N[jm]? = some m) (hij : jn ≠ jm) (hln : X.env.kindOf n = some .local) (hvn : Vis X.env.scope n) (hlm : X.env.scope.names.lookup m = some .local) (hc : Names X x (.ref (cA 0)))
    (hd1 : (n == ("__debug__" : Str)) = false) (hd2 : (n == ("__classdict__" : Str)) = false) (hsw : ∀ (a : Addr) (pn : List (Addr × Obj)), swapsWith (.Name n nv) (some (.Name m nm)) pa.line (X.suite a pn).env = pure false)
    (hb : ∀ (W : WX) (pn : List (Addr × Obj)) (xe : Value → Shared → Prop), Takes (X.tr pn xe) W → PassesOwn (model X.prog X.w) X.A X.env xe → PSs (X.tr pn xe) body (LX X.K cA W i t)) :
    PS X (.Try body [.ExceptHandler (some (.Name x np)) (some n) [.Assign [.Name m nm] (.Name n nv) pa] pos'] [] [] pos) (LS X.K cA W fun env h => tryF i jn jm ne env h (t env h)) :=
  psI (ps_try_bind (tb := fun W => LX X.K cA W i t) hex hs hf hN hi hj hij hln hvn hlm hc hd1 hd2 hsw hb) fun D σ H q => by
    obtain ⟨ρ, h, env, sim, se, hw⟩ := q
    refine ⟨ρ, h, env, sim, se, ?_⟩
    have hw : (tryF i jn jm ne env h (t env h)).wp (PostF X.K cA ρ h H D) (PostZ X.K cA ρ h H W) := hw
    cases e : t env h with
    | fail => rw [e] at hw; exact hw.elim
    | ret v h1 =>
      rw [e] at hw
      intro ρ1 H1 u1 le1 sim1 r1
      cases i with
      | none => exact PostF.now (PostF.from le1 hw) sim1 (se.mono le1)
      | some i => exact PostF.now (PostF.from le1 hw) sim1 ((se.mono le1).set i r1)
    | exc c h1 =>
      rw [e] at hw
      have hw : (if Nat.blt c ne = true then (Res.ret (Flow.next, (env.set jm (some (.ref h1.n))).set jn none) (h1.push (.exc c)) : Rs) else .fail).wp (PostF X.K cA ρ h H D) (PostZ X.K cA ρ h H W) := hw
      split at hw
      · rename_i hlt
        intro ρ1 H1 le1 sim1
        refine ⟨F.em c (Nat.le_of_ble_eq_true hlt), rfl, cA c, rfl, fun a ha => ?_⟩
        have le2 := le_new (K := X.K) (ρ := ρ1) (h := h1) (u := ExT (cA c) a) ha
        have sim2 : Sim X.K cA (extR ρ1 h1.n a) (h1.push (.exc c)) (upd H1 a (ExT (cA c) a)) := sim1.push ha (show upd H1 a _ a = some _ from upd_same)
        have rr : Rep X.K (extR ρ1 h1.n a) (h1.push (.exc c)).n (upd H1 a (ExT (cA c) a)) (.ref h1.n) (.ref a) := .ref (Nat.lt_succ_self _) (extR_self ..).symm
        have se2 := ((se.mono le1).mono le2).set jm rr
        have e3 : ((σ.set jn (some (.ref a))).set jm (some (.ref a))).set jn none = (σ.set jm (some (V.ref a))).set jn none := by
          rw [List.set_comm _ _ hij, List.set_set]
        rw [e3]
        exact hw _ _ _ (le1.trans le2) sim2 (se2.none jn)
      · exact hw.elim
/-- a call without arguments -/
theorem pl_call0 {f : Addr} {fd : FuncData} {x : Str} {k : Nat} {p pos : Pos} {call : Hq → List PV → Res PV} (F : FnOk X.prog X.w X.K X.mg X.base (L2.CX X.prog X.w) k f fd [] (spF X.K cA call 0)) (hr : Room k X.A) (hg : Gl X x) (hm : X.mg x = some (.ref f)) (hk : PySem.W.keepIn X.K (.ref f) = true) (hb : Binds X.K fd [] [])
    (tk : Takes X W) (hdb : (x == ("__debug__" : Str)) = false) :
    PE X (.Call (.Name x p) [] [] pos) (LE X.K cA W fun env h => (Res.ret [] h : Res (List PV)).bind fun vs h1 => call h1 vs) := by
  refine ⟨fun pins s σ H Q I q => ?_⟩
  refine wpAny_Call_Name_kw (ld_glob I hg hm ?_ hdb)
  refine PySem.W.callWith_K0 I.kIn hk (run_fnS (us := []) (vs := []) F hr hb (passAt tk σ) I .nil ?_)
  obtain ⟨ρ, h, env, sim, se, hw⟩ := q
  exact ⟨rfl, ρ, h, [], sim, .nil, Res.wp_mono hw (fun z h3 p => p) fun c h3 p => p⟩
end
end MP

namespace MP
open PySem PySem.Spec PyProof.Rows L2
/-! ### the facts of a law's program, the rules over the interpreter's syntax -/
structure Tb where
  fns : List (Str × List Str)
  frees : List Str
  excs : List Str
  cons : List (Str × PV)
structure CallOk (X : Cx) (cA : Nat → Addr) (f : Hq → List PV → Res PV) (x : Str) (ps : List Str) : Prop where
  ok : ∃ (a : Addr) (fd : FuncData) (k : Nat), FnOk X.prog X.w X.K X.mg X.base (L2.CX X.prog X.w) k a fd ps (spF X.K cA f ps.length) ∧ Room k X.A ∧ X.mg x = some (.ref a) ∧ PySem.W.keepIn X.K (.ref a) = true ∧ Binds X.K fd ps []
structure ExcOk (X : Cx) (C : Addr) (x : Str) : Prop where
  gC : X.mg x = some (.ref C)
  kC : PySem.W.keepIn X.K (.ref C) = true
  r : Raises X (.ref C)
  f : ∃ (B newId initId : String) (bm : List Value), ExcBaseFacts B newId initId bm ∧ PySem.W.excIn X.K C bm newId = true
structure LF (T : Tb) (X : Cx) (cA : Nat → Addr) (W : WX) (call : Call) : Prop where
  cm : X.calm = true
  nd : X.N.Nodup
  un : X.A.units + 65 < cLine
  tk : Takes X W
  fn : ∀ i, i < T.fns.length → CallOk X cA (fun h vs => call i vs h) (T.fns.getD i ("", [])).1 (T.fns.getD i ("", [])).2
  fr : ∀ x, x ∈ T.frees → X.mg x = none
  ex : ∀ (i : Nat) x, T.excs[i]? = some x → ExcOk X (cA i) x
  cn : ∀ (i : Nat), i < T.cons.length → ∃ u, X.mg (T.cons.getD i ("", .non)).1 = some u ∧ ConstR X.K (T.cons.getD i ("", .non)).2 u
  ef : EF T.excs.length X.K cA
theorem takesNo {X : Cx} : Takes X NoX := by
  rintro u s' ⟨a, B, sI, pins, σ, H, cls, d, e, I, nb, up, sky, na, os, ag, w⟩
  exact w.elim
theorem LF.blk {T : Tb} {X : Cx} {cA : Nat → Addr} {W : WX} {call : Call} (l : LF T X cA W call) (s : Shared) (H : Hp) (scope : Scope) (cenv : PySem.Env) (fp : List Addr) : LF T (X.blk s H scope cenv fp) cA NoX call :=
  ⟨l.cm, l.nd, l.un, takesNo, fun i hi => ⟨(l.fn i hi).ok⟩, l.fr, fun i x e => ⟨(l.ex i x e).gC, (l.ex i x e).kC, (l.ex i x e).r, (l.ex i x e).f⟩, l.cn, l.ef⟩
theorem LF.tr {T : Tb} {X : Cx} {cA : Nat → Addr} {W : WX} {call : Call} (l : LF T X cA W call) {W' : WX} {pn : List (Addr × Obj)} {xe : Value → Shared → Prop} (tk : Takes (X.tr pn xe) W') : LF T (X.tr pn xe) cA W' call :=
  ⟨l.cm, l.nd, l.un, tk, fun i hi => ⟨(l.fn i hi).ok⟩, l.fr, fun i x e => ⟨(l.ex i x e).gC, (l.ex i x e).kC, (l.ex i x e).r, (l.ex i x e).f⟩, l.cn, l.ef⟩
section
variable {T : Tb} {X : Cx} {cA : Nat → Addr} {W : WX} {P : Prog} {call : Call} {wf : Nat}
abbrev DE (P : Prog) (call : Call) (X : Cx) (cA : Nat → Addr) (W : WX) (e : Expr) (E : MP.E) : Prop := PE X e (LE X.K cA W (evE P call E))
abbrev DT (P : Prog) (call : Call) (X : Cx) (cA : Nat → Addr) (W : WX) (e : Expr) (E : MP.E) : Prop := PT X e (LT X.K cA W (evE P call E))
abbrev DA (P : Prog) (call : Call) (X : Cx) (cA : Nat → Addr) (W : WX) (e : List Expr) (E : List MP.E) : Prop := PA X e (LA X.K cA W (evEs P call E))
abbrev DI (P : Prog) (call : Call) (X : Cx) (cA : Nat → Addr) (W : WX) (tg e : Expr) (E : MP.E) : Prop := PI X tg e (LI X.K cA W (evSrc P call E))
abbrev DS (P : Prog) (call : Call) (wf : Nat) (X : Cx) (cA : Nat → Addr) (W : WX) (e : Stmt) (S : MP.S) : Prop := PS X e (LS X.K cA W (xS P call wf S))
abbrev DSs (P : Prog) (call : Call) (wf : Nat) (X : Cx) (cA : Nat → Addr) (W : WX) (e : List Stmt) (S : List MP.S) : Prop := PSs X e (LS X.K cA W (xSs P call wf S))
abbrev DTs (P : Prog) (call : Call) (X : Cx) (cA : Nat → Addr) (W : WX) (e : List Expr) (E : List MP.E) : Prop := PTs X e (LB X.K cA W (evTst P call E))

theorem d_non {j} {pos : Pos} : DE P call X cA W (.Constant .none j pos) .non := pl_non
theorem d_bl {b : Bool} {j} {pos : Pos} : DE P call X cA W (.Constant (.bool b) j pos) (.bl b) := pl_bl
theorem d_int {i : Int} {j} {pos : Pos} : DE P call X cA W (.Constant (.int i) j pos) (.int i) := pl_int
theorem d_str {s : List Nat} {x : Str} {j} {pos : Pos} (hx : x = toS s := by kernel_rfl) (o1 : Nat.ble s.length SL = true := by kernel_rfl) (o2 : s.all (fun c => Nat.blt c 128) = true := by kernel_rfl) : DE P call X cA W (.Constant (.str x) j pos) (.str s) := pl_str hx ⟨Nat.le_of_ble_eq_true o1, fun c hc => Nat.le_of_ble_eq_true (List.all_eq_true.mp o2 c hc)⟩
/-- a name of this def, or captured -/
def visB (sc : Scope) (x : Str) : Bool := match sc.names.lookup x with
  | some .local => true
  | some .cell => true
  | some .free => true
  | _ => false
theorem vis_of {sc : Scope} {x : Str} (h : visB sc x = true) : Vis sc x := by
  unfold visB at h
  split at h
  · rename_i e; exact .inl e
  · rename_i e; exact .inr (.inl e)
  · rename_i e; exact .inr (.inr e)
  · cases h
/-- a name that may be stored -/
def locB (X : Cx) (x : Str) : Bool := match X.env.scope.names.lookup x with
  | some .local => true
  | some .cell => X.fn x
  | _ => false
theorem loc_of {x : Str} (h : locB X x = true) : Loc X.env.scope x ∧ (X.fn x = true ∨ X.env.scope.names.lookup x = some .local) := by
  unfold locB at h
  split at h
  · rename_i e; exact ⟨.inl e, .inr e⟩
  · rename_i e; exact ⟨.inr e, .inl h⟩
  · cases h
theorem d_var {i : Nat} {x : Str} {pos : Pos} (hN : X.N[i]? = some x := by kernel_rfl) (hv : visB X.env.scope x = true := by kernel_rfl) (hd : (x == ("__debug__" : Str)) = false := by kernel_rfl) (hcd : (x == ("__classdict__" : Str)) = false := by kernel_rfl) : DE P call X cA W (.Name x pos) (.var i) := pl_var hN (vis_of hv) hd hcd
theorem d_gc {i : Nat} {x : Str} {pos : Pos} (l : LF T X cA W call) (hi : Nat.blt i T.cons.length = true := by kernel_rfl) (hx : (T.cons.getD i ("", .non)).1 = x := by kernel_rfl) (hp : P.consts[i]? = some (T.cons.getD i ("", .non)).2 := by kernel_rfl) (hg : X.env.kindOf x = some .globalImplicit := by kernel_rfl) (hd : (x == ("__debug__" : Str)) = false := by kernel_rfl) : DE P call X cA W (.Name x pos) (.gc i) := by
  obtain ⟨u, hm, r⟩ := l.cn i (Nat.le_of_ble_eq_true hi)
  rw [hx] at hm
  have e : evE P call (.gc i) = fun _ h => .ret (T.cons.getD i ("", .non)).2 h := by
    funext env h
    show ofV h P.consts[i]? = _
    rw [hp]
    rfl
  show PE X _ (LE X.K cA W (evE P call (.gc i)))
  rw [e]
  exact pl_gc hg hm r hd
theorem d_add {a b : Expr} {A B : MP.E} {pos : Pos} (ha : DE P call X cA W a A) (hb : DE P call X cA W b B) : DE P call X cA W (.BinOp a .Add b pos) (.bin .add A B) := pl_bin op_addS ha hb
theorem d_sub {a b : Expr} {A B : MP.E} {pos : Pos} (ha : DE P call X cA W a A) (hb : DE P call X cA W b B) : DE P call X cA W (.BinOp a .Sub b pos) (.bin .sub A B) := pl_bin op_subS ha hb
theorem d_mul {a b : Expr} {A B : MP.E} {pos : Pos} (ha : DE P call X cA W a A) (hb : DE P call X cA W b B) : DE P call X cA W (.BinOp a .Mult b pos) (.bin .mul A B) := pl_bin op_mulS ha hb
theorem d_fdiv {a b : Expr} {A B : MP.E} {pos : Pos} (ha : DE P call X cA W a A) (hb : DE P call X cA W b B) : DE P call X cA W (.BinOp a .FloorDiv b pos) (.bin .fdiv A B) := pl_bin op_fdivS ha hb
theorem d_mod {a b : Expr} {A B : MP.E} {pos : Pos} (ha : DE P call X cA W a A) (hb : DE P call X cA W b B) : DE P call X cA W (.BinOp a .Mod b pos) (.bin .mod A B) := pl_bin op_modS ha hb
theorem d_pow {a b : Expr} {A B : MP.E} {pos : Pos} (ha : DE P call X cA W a A) (hb : DE P call X cA W b B) : DE P call X cA W (.BinOp a .Pow b pos) (.bin .pow A B) := pl_bin op_powS ha hb
theorem d_neg {a : Expr} {A : MP.E} {pos : Pos} (ha : DE P call X cA W a A) : DE P call X cA W (.UnaryOp .USub a pos) (.neg A) := pl_neg ha
theorem d_nt {a : Expr} {A : MP.E} {pos : Pos} (ha : DE P call X cA W a A) : DE P call X cA W (.UnaryOp .Not a pos) (.nt A) := pl_not ha
theorem t_nt {a : Expr} {A : MP.E} {pos : Pos} (ha : DT P call X cA W a A) : DT P call X cA W (.UnaryOp .Not a pos) (.nt A) := ptl_not ha
theorem d_and1 {a : Expr} {A : MP.E} {pos : Pos} (ha : DE P call X cA W a A) : DE P call X cA W (.BoolOp .And [a] pos) (.and [A]) := pe_one ha
theorem d_or1 {a : Expr} {A : MP.E} {pos : Pos} (ha : DE P call X cA W a A) : DE P call X cA W (.BoolOp .Or [a] pos) (.or [A]) := pe_one ha
theorem d_and {a b : Expr} {r : List Expr} {A B : MP.E} {Rr : List MP.E} {pos : Pos} (ha : DE P call X cA W a A) (hb : DE P call X cA W (.BoolOp .And (b :: r) pos) (.and (B :: Rr))) : DE P call X cA W (.BoolOp .And (a :: b :: r) pos) (.and (A :: B :: Rr)) := pl_and ha hb
theorem d_or {a b : Expr} {r : List Expr} {A B : MP.E} {Rr : List MP.E} {pos : Pos} (ha : DE P call X cA W a A) (hb : DE P call X cA W (.BoolOp .Or (b :: r) pos) (.or (B :: Rr))) : DE P call X cA W (.BoolOp .Or (a :: b :: r) pos) (.or (A :: B :: Rr)) := pl_or ha hb
abbrev DW (P : Prog) (call : Call) (X : Cx) (cA : Nat → Addr) (W : WX) (e : Expr) (E : MP.E) : Prop := PW X e (LT X.K cA W (evE P call E))
theorem w_and1 {a : Expr} {A : MP.E} {pos : Pos} (ha : DT P call X cA W a A) : DW P call X cA W (.BoolOp .And [a] pos) (.and [A]) := pw_and1 ha
theorem w_or1 {a : Expr} {A : MP.E} {pos : Pos} (ha : DT P call X cA W a A) : DW P call X cA W (.BoolOp .Or [a] pos) (.or [A]) := pw_or1 ha
theorem w_and {a b : Expr} {r : List Expr} {A B : MP.E} {Rr : List MP.E} {pos : Pos} (ha : DT P call X cA W a A) (hb : DW P call X cA W (.BoolOp .And (b :: r) pos) (.and (B :: Rr))) : DW P call X cA W (.BoolOp .And (a :: b :: r) pos) (.and (A :: B :: Rr)) := pwl_and ha hb
theorem w_or {a b : Expr} {r : List Expr} {A B : MP.E} {Rr : List MP.E} {pos : Pos} (ha : DT P call X cA W a A) (hb : DW P call X cA W (.BoolOp .Or (b :: r) pos) (.or (B :: Rr))) : DW P call X cA W (.BoolOp .Or (a :: b :: r) pos) (.or (A :: B :: Rr)) := pwl_or ha hb
theorem t_w {a : Expr} {A : MP.E} (h : DW P call X cA W a A) : DT P call X cA W a A := h.pt
theorem t_val {a : Expr} {A : MP.E} (h : DE P call X cA W a A) (he : ∀ whole, isTrue a X.env whole = (do let v ← whole; standAt a.pos; holding [v] (truthy v)) := by intro _; kernel_rfl) : DT P call X cA W a A := ptl_val h he
theorem d_eq {a b : Expr} {A B : MP.E} {pos : Pos} (l : LF T X cA W call) (ha : DE P call X cA W a A) (hb : DE P call X cA W b B) (hm : behindInMarks .Eq b = false := by kernel_rfl) : DE P call X cA W (.Compare a [.Eq] [b] pos) (.cmp .eq A B) := pl_cmp (op_eqS (by have := l.un; omega)) ha hb hm
theorem t_eq {a b : Expr} {A B : MP.E} {pos : Pos} (l : LF T X cA W call) (ha : DE P call X cA W a A) (hb : DE P call X cA W b B) (hm : behindInMarks .Eq b = false := by kernel_rfl) : DT P call X cA W (.Compare a [.Eq] [b] pos) (.cmp .eq A B) := ptl_cmp (op_eqS (by have := l.un; omega)) ha hb hm
theorem d_ne {a b : Expr} {A B : MP.E} {pos : Pos} (l : LF T X cA W call) (ha : DE P call X cA W a A) (hb : DE P call X cA W b B) (hm : behindInMarks .NotEq b = false := by kernel_rfl) : DE P call X cA W (.Compare a [.NotEq] [b] pos) (.cmp .ne A B) := pl_cmp (op_neS (by have := l.un; omega)) ha hb hm
theorem t_ne {a b : Expr} {A B : MP.E} {pos : Pos} (l : LF T X cA W call) (ha : DE P call X cA W a A) (hb : DE P call X cA W b B) (hm : behindInMarks .NotEq b = false := by kernel_rfl) : DT P call X cA W (.Compare a [.NotEq] [b] pos) (.cmp .ne A B) := ptl_cmp (op_neS (by have := l.un; omega)) ha hb hm
theorem d_lt {a b : Expr} {A B : MP.E} {pos : Pos} (l : LF T X cA W call) (ha : DE P call X cA W a A) (hb : DE P call X cA W b B) (hm : behindInMarks .Lt b = false := by kernel_rfl) : DE P call X cA W (.Compare a [.Lt] [b] pos) (.cmp .lt A B) := pl_cmp (op_ltS) ha hb hm
theorem t_lt {a b : Expr} {A B : MP.E} {pos : Pos} (l : LF T X cA W call) (ha : DE P call X cA W a A) (hb : DE P call X cA W b B) (hm : behindInMarks .Lt b = false := by kernel_rfl) : DT P call X cA W (.Compare a [.Lt] [b] pos) (.cmp .lt A B) := ptl_cmp (op_ltS) ha hb hm
theorem d_le {a b : Expr} {A B : MP.E} {pos : Pos} (l : LF T X cA W call) (ha : DE P call X cA W a A) (hb : DE P call X cA W b B) (hm : behindInMarks .LtE b = false := by kernel_rfl) : DE P call X cA W (.Compare a [.LtE] [b] pos) (.cmp .le A B) := pl_cmp (op_leS) ha hb hm
theorem t_le {a b : Expr} {A B : MP.E} {pos : Pos} (l : LF T X cA W call) (ha : DE P call X cA W a A) (hb : DE P call X cA W b B) (hm : behindInMarks .LtE b = false := by kernel_rfl) : DT P call X cA W (.Compare a [.LtE] [b] pos) (.cmp .le A B) := ptl_cmp (op_leS) ha hb hm
theorem d_gt {a b : Expr} {A B : MP.E} {pos : Pos} (l : LF T X cA W call) (ha : DE P call X cA W a A) (hb : DE P call X cA W b B) (hm : behindInMarks .Gt b = false := by kernel_rfl) : DE P call X cA W (.Compare a [.Gt] [b] pos) (.cmp .gt A B) := pl_cmp (op_gtS) ha hb hm
theorem t_gt {a b : Expr} {A B : MP.E} {pos : Pos} (l : LF T X cA W call) (ha : DE P call X cA W a A) (hb : DE P call X cA W b B) (hm : behindInMarks .Gt b = false := by kernel_rfl) : DT P call X cA W (.Compare a [.Gt] [b] pos) (.cmp .gt A B) := ptl_cmp (op_gtS) ha hb hm
theorem d_ge {a b : Expr} {A B : MP.E} {pos : Pos} (l : LF T X cA W call) (ha : DE P call X cA W a A) (hb : DE P call X cA W b B) (hm : behindInMarks .GtE b = false := by kernel_rfl) : DE P call X cA W (.Compare a [.GtE] [b] pos) (.cmp .ge A B) := pl_cmp (op_geS) ha hb hm
theorem t_ge {a b : Expr} {A B : MP.E} {pos : Pos} (l : LF T X cA W call) (ha : DE P call X cA W a A) (hb : DE P call X cA W b B) (hm : behindInMarks .GtE b = false := by kernel_rfl) : DT P call X cA W (.Compare a [.GtE] [b] pos) (.cmp .ge A B) := ptl_cmp (op_geS) ha hb hm
theorem d_isin {a b : Expr} {A B : MP.E} {pos : Pos} (l : LF T X cA W call) (ha : DE P call X cA W a A) (hb : DE P call X cA W b B) (hm : behindInMarks .In b = false := by kernel_rfl) : DE P call X cA W (.Compare a [.In] [b] pos) (.cmp .isin A B) := pl_cmp (op_inS l.un) ha hb hm
theorem t_isin {a b : Expr} {A B : MP.E} {pos : Pos} (l : LF T X cA W call) (ha : DE P call X cA W a A) (hb : DE P call X cA W b B) (hm : behindInMarks .In b = false := by kernel_rfl) : DT P call X cA W (.Compare a [.In] [b] pos) (.cmp .isin A B) := ptl_cmp (op_inS l.un) ha hb hm
theorem d_notin {a b : Expr} {A B : MP.E} {pos : Pos} (l : LF T X cA W call) (ha : DE P call X cA W a A) (hb : DE P call X cA W b B) (hm : behindInMarks .NotIn b = false := by kernel_rfl) : DE P call X cA W (.Compare a [.NotIn] [b] pos) (.cmp .notin A B) := pl_cmp (op_notinS l.un) ha hb hm
theorem t_notin {a b : Expr} {A B : MP.E} {pos : Pos} (l : LF T X cA W call) (ha : DE P call X cA W a A) (hb : DE P call X cA W b B) (hm : behindInMarks .NotIn b = false := by kernel_rfl) : DT P call X cA W (.Compare a [.NotIn] [b] pos) (.cmp .notin A B) := ptl_cmp (op_notinS l.un) ha hb hm
theorem d_chain_eq_eq {a b c : Expr} {A B C : MP.E} {pos : Pos} (l : LF T X cA W call) (ha : DE P call X cA W a A) (hb : DE P call X cA W b B) (hc : DE P call X cA W c C) (hm : lastMarks [.Eq, .Eq] [b, c] = false := by kernel_rfl) : DE P call X cA W (.Compare a [.Eq, .Eq] [b, c] pos) (.chain .eq .eq A B C) := pl_chain (op_eqS (by have := l.un; omega)) (op_eqS (by have := l.un; omega)) ha hb hc hm
theorem d_chain_lt_lt {a b c : Expr} {A B C : MP.E} {pos : Pos} (l : LF T X cA W call) (ha : DE P call X cA W a A) (hb : DE P call X cA W b B) (hc : DE P call X cA W c C) (hm : lastMarks [.Lt, .Lt] [b, c] = false := by kernel_rfl) : DE P call X cA W (.Compare a [.Lt, .Lt] [b, c] pos) (.chain .lt .lt A B C) := pl_chain (op_ltS) (op_ltS) ha hb hc hm
theorem d_chain_lt_le {a b c : Expr} {A B C : MP.E} {pos : Pos} (l : LF T X cA W call) (ha : DE P call X cA W a A) (hb : DE P call X cA W b B) (hc : DE P call X cA W c C) (hm : lastMarks [.Lt, .LtE] [b, c] = false := by kernel_rfl) : DE P call X cA W (.Compare a [.Lt, .LtE] [b, c] pos) (.chain .lt .le A B C) := pl_chain (op_ltS) (op_leS) ha hb hc hm
theorem d_chain_le_lt {a b c : Expr} {A B C : MP.E} {pos : Pos} (l : LF T X cA W call) (ha : DE P call X cA W a A) (hb : DE P call X cA W b B) (hc : DE P call X cA W c C) (hm : lastMarks [.LtE, .Lt] [b, c] = false := by kernel_rfl) : DE P call X cA W (.Compare a [.LtE, .Lt] [b, c] pos) (.chain .le .lt A B C) := pl_chain (op_leS) (op_ltS) ha hb hc hm
theorem d_chain_le_le {a b c : Expr} {A B C : MP.E} {pos : Pos} (l : LF T X cA W call) (ha : DE P call X cA W a A) (hb : DE P call X cA W b B) (hc : DE P call X cA W c C) (hm : lastMarks [.LtE, .LtE] [b, c] = false := by kernel_rfl) : DE P call X cA W (.Compare a [.LtE, .LtE] [b, c] pos) (.chain .le .le A B C) := pl_chain (op_leS) (op_leS) ha hb hc hm
theorem t_chain_eq_eq {a b c : Expr} {A B C : MP.E} {pos : Pos} (l : LF T X cA W call) (ha : DE P call X cA W a A) (hb : DE P call X cA W b B) (hc : DE P call X cA W c C) (hm : lastMarks [.Eq, .Eq] [b, c] = false := by kernel_rfl) : DT P call X cA W (.Compare a [.Eq, .Eq] [b, c] pos) (.chain .eq .eq A B C) := ptl_chain (op_eqS (by have := l.un; omega)) (op_eqS (by have := l.un; omega)) ha hb hc hm
theorem t_chain_lt_lt {a b c : Expr} {A B C : MP.E} {pos : Pos} (l : LF T X cA W call) (ha : DE P call X cA W a A) (hb : DE P call X cA W b B) (hc : DE P call X cA W c C) (hm : lastMarks [.Lt, .Lt] [b, c] = false := by kernel_rfl) : DT P call X cA W (.Compare a [.Lt, .Lt] [b, c] pos) (.chain .lt .lt A B C) := ptl_chain (op_ltS) (op_ltS) ha hb hc hm
theorem t_chain_lt_le {a b c : Expr} {A B C : MP.E} {pos : Pos} (l : LF T X cA W call) (ha : DE P call X cA W a A) (hb : DE P call X cA W b B) (hc : DE P call X cA W c C) (hm : lastMarks [.Lt, .LtE] [b, c] = false := by kernel_rfl) : DT P call X cA W (.Compare a [.Lt, .LtE] [b, c] pos) (.chain .lt .le A B C) := ptl_chain (op_ltS) (op_leS) ha hb hc hm
theorem t_chain_le_lt {a b c : Expr} {A B C : MP.E} {pos : Pos} (l : LF T X cA W call) (ha : DE P call X cA W a A) (hb : DE P call X cA W b B) (hc : DE P call X cA W c C) (hm : lastMarks [.LtE, .Lt] [b, c] = false := by kernel_rfl) : DT P call X cA W (.Compare a [.LtE, .Lt] [b, c] pos) (.chain .le .lt A B C) := ptl_chain (op_leS) (op_ltS) ha hb hc hm
theorem t_chain_le_le {a b c : Expr} {A B C : MP.E} {pos : Pos} (l : LF T X cA W call) (ha : DE P call X cA W a A) (hb : DE P call X cA W b B) (hc : DE P call X cA W c C) (hm : lastMarks [.LtE, .LtE] [b, c] = false := by kernel_rfl) : DT P call X cA W (.Compare a [.LtE, .LtE] [b, c] pos) (.chain .le .le A B C) := ptl_chain (op_leS) (op_leS) ha hb hc hm
theorem d_isN {a : Expr} {A : MP.E} {j} {pos pos' : Pos} (ha : DE P call X cA W a A) : DE P call X cA W (.Compare a [.Is] [.Constant .none j pos'] pos) (.isN false A) := pl_isN ha
theorem d_notN {a : Expr} {A : MP.E} {j} {pos pos' : Pos} (ha : DE P call X cA W a A) : DE P call X cA W (.Compare a [.IsNot] [.Constant .none j pos'] pos) (.isN true A) := pl_notN ha
theorem d_isB {a : Expr} {A : MP.E} {b : Bool} {j} {pos pos' : Pos} (ha : DE P call X cA W a A) : DE P call X cA W (.Compare a [.Is] [.Constant (.bool b) j pos'] pos) (.isB false A b) := pl_isB ha
theorem d_notB {a : Expr} {A : MP.E} {b : Bool} {j} {pos pos' : Pos} (ha : DE P call X cA W a A) : DE P call X cA W (.Compare a [.IsNot] [.Constant (.bool b) j pos'] pos) (.isB true A b) := pl_notB ha
theorem t_isN {a : Expr} {A : MP.E} {j} {pos pos' : Pos} (ha : DE P call X cA W a A) : DT P call X cA W (.Compare a [.Is] [.Constant .none j pos'] pos) (.isN false A) := ptl_isN ha
theorem t_notN {a : Expr} {A : MP.E} {j} {pos pos' : Pos} (ha : DE P call X cA W a A) : DT P call X cA W (.Compare a [.IsNot] [.Constant .none j pos'] pos) (.isN true A) := ptl_notN ha
theorem t_isB {a : Expr} {A : MP.E} {b : Bool} {j} {pos pos' : Pos} (ha : DE P call X cA W a A) : DT P call X cA W (.Compare a [.Is] [.Constant (.bool b) j pos'] pos) (.isB false A b) := ptl_isB ha
theorem t_notB {a : Expr} {A : MP.E} {b : Bool} {j} {pos pos' : Pos} (ha : DE P call X cA W a A) : DT P call X cA W (.Compare a [.IsNot] [.Constant (.bool b) j pos'] pos) (.isB true A b) := ptl_notB ha
theorem d_ite {c a b : Expr} {C A B : MP.E} {pos : Pos} (hc : DT P call X cA W c C) (ha : DE P call X cA W a A) (hb : DE P call X cA W b B) : DE P call X cA W (.IfExp c a b pos) (.ite C A B) := pl_ite hc ha hb
theorem a_nil  : DA P call X cA W [] [] := pal_nil
theorem a_cons {e : Expr} {es : List Expr} {A : MP.E} {As : List MP.E} (ha : DE P call X cA W e A) (hr : DA P call X cA W es As) (hs : starEach (e :: es) X.env = (false, eval e X.env) :: starEach es X.env := by kernel_rfl) : DA P call X cA W (e :: es) (A :: As) := pal_cons ha hr hs
theorem d_tup {es : List Expr} {As : List MP.E} {k} {pos : Pos} (h : DA P call X cA W es As) : DE P call X cA W (.Tuple es k pos) (.tup As) := pl_tup h
theorem d_lst {es : List Expr} {As : List MP.E} {pos : Pos} (h : DA P call X cA W es As) : DE P call X cA W (.List es pos) (.lst As) := pl_lst h
theorem d_dnew {pos : Pos} : DE P call X cA W (.Dict [] [] pos) (.dct false [] []) := pl_dnew
theorem evEs_len : ∀ (As : List MP.E) (env : Env) (h : Hq) (vs : List PV) (h1 : Hq), evEs P call As env h = .ret vs h1 → vs.length = As.length
  | [], env, h, vs, h1, e => by
    have e : (Res.ret [] h : Res (List PV)) = .ret vs h1 := e
    cases e; rfl
  | A :: As, env, h, vs, h1, e => by
    have e : ((evE P call A env h).bind fun v h1 => (evEs P call As env h1).bind fun vs h2 => Res.ret (v :: vs) h2) = .ret vs h1 := e
    cases e1 : evE P call A env h with
    | exc c h2 => rw [e1] at e; cases e
    | fail => rw [e1] at e; cases e
    | ret v h2 =>
      rw [e1] at e
      have e : ((evEs P call As env h2).bind fun vs h2 => Res.ret (v :: vs) h2) = .ret vs h1 := e
      cases e2 : evEs P call As env h2 with
      | exc c h2 => rw [e2] at e; cases e
      | fail => rw [e2] at e; cases e
      | ret ws h3 =>
        rw [e2] at e
        have e : (Res.ret (v :: ws) h3 : Res (List PV)) = .ret vs h1 := e
        cases e
        rw [List.length_cons, List.length_cons, evEs_len As env h2 ws _ e2]
theorem d_call {i : Nat} {x : Str} {e : Expr} {es : List Expr} {A : MP.E} {As : List MP.E} {p pos : Pos} (l : LF T X cA W call) (ha : DA P call X cA W (e :: es) (A :: As)) (hi : Nat.blt i T.fns.length = true := by kernel_rfl) (hx : (T.fns.getD i ("", [])).1 = x := by kernel_rfl) (h1 : (e :: es).length = (T.fns.getD i ("", [])).2.length := by kernel_rfl) (h2 : (A :: As).length = (T.fns.getD i ("", [])).2.length := by kernel_rfl) (hg : X.env.kindOf x = some .globalImplicit := by kernel_rfl) (hdb : (x == ("__debug__" : Str)) = false := by kernel_rfl) (he : starEach (e :: es) X.env = (false, eval e X.env) :: starEach es X.env := by kernel_rfl) (hpl : (backTo pos (starEach es X.env)).any (·.1) = false := by kernel_rfl) : DE P call X cA W (.Call (.Name x p) (e :: es) [] pos) (.call i (A :: As)) := by
  obtain ⟨a, fd, k, F, hr, hm, hk, hb⟩ := (l.fn i (Nat.le_of_ble_eq_true hi)).ok
  rw [hx] at hm
  exact pl_call F hr hg hm hk hb l.tk h1 ha (fun env h vs h1 e => (evEs_len _ _ _ _ _ e).trans h2) hdb he hpl
theorem d_call0 {i : Nat} {x : Str} {p pos : Pos} (l : LF T X cA W call) (hi : Nat.blt i T.fns.length = true := by kernel_rfl) (hx : (T.fns.getD i ("", [])).1 = x := by kernel_rfl) (h2 : (T.fns.getD i ("", [])).2 = [] := by kernel_rfl) (hg : X.env.kindOf x = some .globalImplicit := by kernel_rfl) (hdb : (x == ("__debug__" : Str)) = false := by kernel_rfl) : DE P call X cA W (.Call (.Name x p) [] [] pos) (.call i []) := by
  obtain ⟨a, fd, k, F, hr, hm, hk, hb⟩ := (l.fn i (Nat.le_of_ble_eq_true hi)).ok
  rw [hx] at hm
  rw [h2] at F hb
  exact pl_call0 (call := fun h vs => call i vs h) F hr hg hm hk hb l.tk hdb
theorem d_len {e : Expr} {es : List Expr} {A : MP.E} {As : List MP.E} {p pos : Pos} (l : LF T X cA W call) (ha : DA P call X cA W (e :: es) (A :: As)) (hf : decide (("len" : Str) ∈ T.frees) = true := by kernel_rfl) (hg : X.env.kindOf ("len" : Str) = some .globalImplicit := by kernel_rfl) (he : starEach (e :: es) X.env = (false, eval e X.env) :: starEach es X.env := by kernel_rfl) (hpl : (backTo pos (starEach es X.env)).any (·.1) = false := by kernel_rfl) : DE P call X cA W (.Call (.Name "len" p) (e :: es) [] pos) (.bi .len (A :: As)) := pl_bi (cr_len) hg (l.fr _ (of_decide_eq_true hf)) (by decide +kernel) ha (by decide) (by decide) he hpl
theorem d_sorted {e : Expr} {es : List Expr} {A : MP.E} {As : List MP.E} {p pos : Pos} (l : LF T X cA W call) (ha : DA P call X cA W (e :: es) (A :: As)) (hf : decide (("sorted" : Str) ∈ T.frees) = true := by kernel_rfl) (hg : X.env.kindOf ("sorted" : Str) = some .globalImplicit := by kernel_rfl) (he : starEach (e :: es) X.env = (false, eval e X.env) :: starEach es X.env := by kernel_rfl) (hpl : (backTo pos (starEach es X.env)).any (·.1) = false := by kernel_rfl) : DE P call X cA W (.Call (.Name "sorted" p) (e :: es) [] pos) (.bi .sorted (A :: As)) := pl_bi (cr_sortedS' l.cm) hg (l.fr _ (of_decide_eq_true hf)) (by decide +kernel) ha (by decide) (by decide) he hpl
theorem d_all {e : Expr} {es : List Expr} {A : MP.E} {As : List MP.E} {p pos : Pos} (l : LF T X cA W call) (ha : DA P call X cA W (e :: es) (A :: As)) (hf : decide (("all" : Str) ∈ T.frees) = true := by kernel_rfl) (hg : X.env.kindOf ("all" : Str) = some .globalImplicit := by kernel_rfl) (he : starEach (e :: es) X.env = (false, eval e X.env) :: starEach es X.env := by kernel_rfl) (hpl : (backTo pos (starEach es X.env)).any (·.1) = false := by kernel_rfl) : DE P call X cA W (.Call (.Name "all" p) (e :: es) [] pos) (.bi .all (A :: As)) := pl_bi (cr_allS l.cm) hg (l.fr _ (of_decide_eq_true hf)) (by decide +kernel) ha (by decide) (by decide) he hpl
theorem d_sum {e : Expr} {es : List Expr} {A : MP.E} {As : List MP.E} {p pos : Pos} (l : LF T X cA W call) (ha : DA P call X cA W (e :: es) (A :: As)) (hf : decide (("sum" : Str) ∈ T.frees) = true := by kernel_rfl) (hg : X.env.kindOf ("sum" : Str) = some .globalImplicit := by kernel_rfl) (he : starEach (e :: es) X.env = (false, eval e X.env) :: starEach es X.env := by kernel_rfl) (hpl : (backTo pos (starEach es X.env)).any (·.1) = false := by kernel_rfl) : DE P call X cA W (.Call (.Name "sum" p) (e :: es) [] pos) (.bi .sum (A :: As)) := pl_bi (cr_sumS l.cm) hg (l.fr _ (of_decide_eq_true hf)) (by decide +kernel) ha (by decide) (by decide) he hpl
theorem d_min {e : Expr} {es : List Expr} {A : MP.E} {As : List MP.E} {p pos : Pos} (l : LF T X cA W call) (ha : DA P call X cA W (e :: es) (A :: As)) (hf : decide (("min" : Str) ∈ T.frees) = true := by kernel_rfl) (hg : X.env.kindOf ("min" : Str) = some .globalImplicit := by kernel_rfl) (he : starEach (e :: es) X.env = (false, eval e X.env) :: starEach es X.env := by kernel_rfl) (hpl : (backTo pos (starEach es X.env)).any (·.1) = false := by kernel_rfl) : DE P call X cA W (.Call (.Name "min" p) (e :: es) [] pos) (.bi .min (A :: As)) := pl_bi (cr_minS l.cm) hg (l.fr _ (of_decide_eq_true hf)) (by decide +kernel) ha (by decide) (by decide) he hpl
theorem d_max {e : Expr} {es : List Expr} {A : MP.E} {As : List MP.E} {p pos : Pos} (l : LF T X cA W call) (ha : DA P call X cA W (e :: es) (A :: As)) (hf : decide (("max" : Str) ∈ T.frees) = true := by kernel_rfl) (hg : X.env.kindOf ("max" : Str) = some .globalImplicit := by kernel_rfl) (he : starEach (e :: es) X.env = (false, eval e X.env) :: starEach es X.env := by kernel_rfl) (hpl : (backTo pos (starEach es X.env)).any (·.1) = false := by kernel_rfl) : DE P call X cA W (.Call (.Name "max" p) (e :: es) [] pos) (.bi .max (A :: As)) := pl_bi (cr_maxS l.cm) hg (l.fr _ (of_decide_eq_true hf)) (by decide +kernel) ha (by decide) (by decide) he hpl
theorem d_list {e : Expr} {es : List Expr} {A : MP.E} {As : List MP.E} {p pos : Pos} (l : LF T X cA W call) (ha : DA P call X cA W (e :: es) (A :: As)) (hf : decide (("list" : Str) ∈ T.frees) = true := by kernel_rfl) (hg : X.env.kindOf ("list" : Str) = some .globalImplicit := by kernel_rfl) (he : starEach (e :: es) X.env = (false, eval e X.env) :: starEach es X.env := by kernel_rfl) (hpl : (backTo pos (starEach es X.env)).any (·.1) = false := by kernel_rfl) : DE P call X cA W (.Call (.Name "list" p) (e :: es) [] pos) (.bi .list (A :: As)) := pl_biT (cr_list l.cm) hg (l.fr _ (of_decide_eq_true hf)) (by decide +kernel) ha (by decide) (by decide) he hpl
theorem d_tuple {e : Expr} {es : List Expr} {A : MP.E} {As : List MP.E} {p pos : Pos} (l : LF T X cA W call) (ha : DA P call X cA W (e :: es) (A :: As)) (hf : decide (("tuple" : Str) ∈ T.frees) = true := by kernel_rfl) (hg : X.env.kindOf ("tuple" : Str) = some .globalImplicit := by kernel_rfl) (he : starEach (e :: es) X.env = (false, eval e X.env) :: starEach es X.env := by kernel_rfl) (hpl : (backTo pos (starEach es X.env)).any (·.1) = false := by kernel_rfl) : DE P call X cA W (.Call (.Name "tuple" p) (e :: es) [] pos) (.bi .tuple (A :: As)) := pl_biT (cr_tuple) hg (l.fr _ (of_decide_eq_true hf)) (by decide +kernel) ha (by decide) (by decide) he hpl
theorem d_strOf {e : Expr} {es : List Expr} {A : MP.E} {As : List MP.E} {p pos : Pos} (l : LF T X cA W call) (ha : DA P call X cA W (e :: es) (A :: As)) (hf : decide (("str" : Str) ∈ T.frees) = true := by kernel_rfl) (hg : X.env.kindOf ("str" : Str) = some .globalImplicit := by kernel_rfl) (he : starEach (e :: es) X.env = (false, eval e X.env) :: starEach es X.env := by kernel_rfl) (hpl : (backTo pos (starEach es X.env)).any (·.1) = false := by kernel_rfl) : DE P call X cA W (.Call (.Name "str" p) (e :: es) [] pos) (.bi .str (A :: As)) := pl_biT (cr_strS) hg (l.fr _ (of_decide_eq_true hf)) (by decide +kernel) ha (by decide) (by decide) he hpl
theorem d_listRg1 {a : Expr} {A : MP.E} {p p2 pos pos2 : Pos} (l : LF T X cA W call) (ha : DE P call X cA W a A) (hf : decide (("list" : Str) ∈ T.frees) = true := by kernel_rfl) (hf2 : decide (("range" : Str) ∈ T.frees) = true := by kernel_rfl) (hg : X.env.kindOf ("list" : Str) = some .globalImplicit := by kernel_rfl) (hg2 : X.env.kindOf ("range" : Str) = some .globalImplicit := by kernel_rfl) (na2 : starEach [a] X.env = (false, eval a X.env) :: starEach [] X.env := by kernel_rfl) (na : starEach [.Call (.Name "range" p2) [a] [] pos2] X.env = (false, eval (.Call (.Name "range" p2) [a] [] pos2) X.env) :: starEach [] X.env := by kernel_rfl) : DE P call X cA W (.Call (.Name "list" p) [.Call (.Name "range" p2) [a] [] pos2] [] pos) (.bi .listRange [A]) := by
  have e : (fun env h => (evE P call A env h).bind fun v h1 => biS .listRange h1 [v]) = evE P call (.bi .listRange [A]) := by
    funext env h
    show _ = ((evE P call A env h).bind fun v h1 => Res.ret [v] h1).bind fun vs h1 => biS .listRange h1 vs
    cases evE P call A env h <;> rfl
  show PE X _ (LE X.K cA W (evE P call (.bi .listRange [A])))
  rw [← e]
  exact pl_listRg1 l.cm hg (l.fr _ (of_decide_eq_true hf)) hg2 (l.fr _ (of_decide_eq_true hf2)) ha na2 na
theorem d_listRg2 {a b : Expr} {A B : MP.E} {p p2 pos pos2 : Pos} (l : LF T X cA W call) (ha : DE P call X cA W a A) (hb : DE P call X cA W b B) (hf : decide (("list" : Str) ∈ T.frees) = true := by kernel_rfl) (hf2 : decide (("range" : Str) ∈ T.frees) = true := by kernel_rfl) (hg : X.env.kindOf ("list" : Str) = some .globalImplicit := by kernel_rfl) (hg2 : X.env.kindOf ("range" : Str) = some .globalImplicit := by kernel_rfl) (na2 : starEach [a, b] X.env = (false, eval a X.env) :: starEach [b] X.env := by kernel_rfl) (nb2 : starEach [b] X.env = (false, eval b X.env) :: starEach [] X.env := by kernel_rfl) (hp2 : (backTo pos2 (starEach [b] X.env)).any (·.1) = false := by kernel_rfl) (na : starEach [.Call (.Name "range" p2) [a, b] [] pos2] X.env = (false, eval (.Call (.Name "range" p2) [a, b] [] pos2) X.env) :: starEach [] X.env := by kernel_rfl) : DE P call X cA W (.Call (.Name "list" p) [.Call (.Name "range" p2) [a, b] [] pos2] [] pos) (.bi .listRange [A, B]) := by
  have e : (fun env h => (evE P call A env h).bind fun v h1 => (evE P call B env h1).bind fun w h2 => biS .listRange h2 [v, w]) = evE P call (.bi .listRange [A, B]) := by
    funext env h
    show _ = ((evE P call A env h).bind fun v h1 => (((evE P call B env h1).bind fun w h2 => Res.ret [w] h2)).bind fun vs h2 => Res.ret (v :: vs) h2).bind fun vs h1 => biS .listRange h1 vs
    cases evE P call A env h with
    | ret v h1 => show _ = ((((evE P call B env h1).bind fun w h2 => Res.ret [w] h2)).bind fun vs h2 => Res.ret (v :: vs) h2).bind fun vs h1 => biS .listRange h1 vs; show (evE P call B env h1).bind _ = _; cases evE P call B env h1 <;> rfl
    | exc c h => rfl
    | fail => rfl
  show PE X _ (LE X.K cA W (evE P call (.bi .listRange [A, B])))
  rw [← e]
  exact pl_listRg2 l.cm hg (l.fr _ (of_decide_eq_true hf)) hg2 (l.fr _ (of_decide_eq_true hf2)) ha hb na2 nb2 hp2 na
theorem d_isin_int {a : Expr} {A : MP.E} {p p2 pos : Pos} (l : LF T X cA W call) (ha : DE P call X cA W a A) (hf : decide (("isinstance" : Str) ∈ T.frees) = true := by kernel_rfl) (hf2 : decide (("int" : Str) ∈ T.frees) = true := by kernel_rfl) (hg : X.env.kindOf ("isinstance" : Str) = some .globalImplicit := by kernel_rfl) (hx : X.env.kindOf ("int" : Str) = some .globalImplicit := by kernel_rfl) (he : starEach [a, .Name "int" p2] X.env = (false, eval a X.env) :: starEach [.Name "int" p2] X.env := by kernel_rfl) (hpl : (backTo pos (starEach [.Name "int" p2] X.env)).any (·.1) = false := by kernel_rfl) : DE P call X cA W (.Call (.Name "isinstance" p) [a, .Name "int" p2] [] pos) (.isinst A .int) := pl_isin (isa := P.isa) (ty := .int) rfl hg (l.fr _ (of_decide_eq_true hf)) hx (l.fr _ (of_decide_eq_true hf2)) (by decide +kernel) (by decide) (by decide) ha he hpl
theorem d_isin_bool {a : Expr} {A : MP.E} {p p2 pos : Pos} (l : LF T X cA W call) (ha : DE P call X cA W a A) (hf : decide (("isinstance" : Str) ∈ T.frees) = true := by kernel_rfl) (hf2 : decide (("bool" : Str) ∈ T.frees) = true := by kernel_rfl) (hg : X.env.kindOf ("isinstance" : Str) = some .globalImplicit := by kernel_rfl) (hx : X.env.kindOf ("bool" : Str) = some .globalImplicit := by kernel_rfl) (he : starEach [a, .Name "bool" p2] X.env = (false, eval a X.env) :: starEach [.Name "bool" p2] X.env := by kernel_rfl) (hpl : (backTo pos (starEach [.Name "bool" p2] X.env)).any (·.1) = false := by kernel_rfl) : DE P call X cA W (.Call (.Name "isinstance" p) [a, .Name "bool" p2] [] pos) (.isinst A .bool) := pl_isin (isa := P.isa) (ty := .bool) rfl hg (l.fr _ (of_decide_eq_true hf)) hx (l.fr _ (of_decide_eq_true hf2)) (by decide +kernel) (by decide) (by decide) ha he hpl
theorem d_isin_str {a : Expr} {A : MP.E} {p p2 pos : Pos} (l : LF T X cA W call) (ha : DE P call X cA W a A) (hf : decide (("isinstance" : Str) ∈ T.frees) = true := by kernel_rfl) (hf2 : decide (("str" : Str) ∈ T.frees) = true := by kernel_rfl) (hg : X.env.kindOf ("isinstance" : Str) = some .globalImplicit := by kernel_rfl) (hx : X.env.kindOf ("str" : Str) = some .globalImplicit := by kernel_rfl) (he : starEach [a, .Name "str" p2] X.env = (false, eval a X.env) :: starEach [.Name "str" p2] X.env := by kernel_rfl) (hpl : (backTo pos (starEach [.Name "str" p2] X.env)).any (·.1) = false := by kernel_rfl) : DE P call X cA W (.Call (.Name "isinstance" p) [a, .Name "str" p2] [] pos) (.isinst A .str) := pl_isin (isa := P.isa) (ty := .str) rfl hg (l.fr _ (of_decide_eq_true hf)) hx (l.fr _ (of_decide_eq_true hf2)) (by decide +kernel) (by decide) (by decide) ha he hpl
theorem d_isin_list {a : Expr} {A : MP.E} {p p2 pos : Pos} (l : LF T X cA W call) (ha : DE P call X cA W a A) (hf : decide (("isinstance" : Str) ∈ T.frees) = true := by kernel_rfl) (hf2 : decide (("list" : Str) ∈ T.frees) = true := by kernel_rfl) (hg : X.env.kindOf ("isinstance" : Str) = some .globalImplicit := by kernel_rfl) (hx : X.env.kindOf ("list" : Str) = some .globalImplicit := by kernel_rfl) (he : starEach [a, .Name "list" p2] X.env = (false, eval a X.env) :: starEach [.Name "list" p2] X.env := by kernel_rfl) (hpl : (backTo pos (starEach [.Name "list" p2] X.env)).any (·.1) = false := by kernel_rfl) : DE P call X cA W (.Call (.Name "isinstance" p) [a, .Name "list" p2] [] pos) (.isinst A .list) := pl_isin (isa := P.isa) (ty := .list) rfl hg (l.fr _ (of_decide_eq_true hf)) hx (l.fr _ (of_decide_eq_true hf2)) (by decide +kernel) (by decide) (by decide) ha he hpl
theorem d_isin_tuple {a : Expr} {A : MP.E} {p p2 pos : Pos} (l : LF T X cA W call) (ha : DE P call X cA W a A) (hf : decide (("isinstance" : Str) ∈ T.frees) = true := by kernel_rfl) (hf2 : decide (("tuple" : Str) ∈ T.frees) = true := by kernel_rfl) (hg : X.env.kindOf ("isinstance" : Str) = some .globalImplicit := by kernel_rfl) (hx : X.env.kindOf ("tuple" : Str) = some .globalImplicit := by kernel_rfl) (he : starEach [a, .Name "tuple" p2] X.env = (false, eval a X.env) :: starEach [.Name "tuple" p2] X.env := by kernel_rfl) (hpl : (backTo pos (starEach [.Name "tuple" p2] X.env)).any (·.1) = false := by kernel_rfl) : DE P call X cA W (.Call (.Name "isinstance" p) [a, .Name "tuple" p2] [] pos) (.isinst A .tuple) := pl_isin (isa := P.isa) (ty := .tuple) rfl hg (l.fr _ (of_decide_eq_true hf)) hx (l.fr _ (of_decide_eq_true hf2)) (by decide +kernel) (by decide) (by decide) ha he hpl
theorem d_idx {a b : Expr} {A B : MP.E} {pos : Pos} (l : LF T X cA W call) (ha : DE P call X cA W a A) (hb : DE P call X cA W b B) (hs : ∀ o i, subscripted b false o i = operate [o, i] (getItem o i) := by intros; kernel_rfl) : DE P call X cA W (.Subscript a b pos) (.idx A B) := pl_idx l.un ha hb hs
abbrev DO (P : Prog) (call : Call) (X : Cx) (cA : Nat → Addr) (W : WX) (e : Option Expr) (E : MP.E) : Prop := PO X e (LO' X.K cA W (evE P call E) (partE E))
theorem o_none : DO P call X cA W none .non := pol_none
theorem o_some {e : Expr} {A : MP.E} (h : DE P call X cA W e A) (hn : A ≠ .non := by intro z; nomatch z) : DO P call X cA W (some e) A := by
  have hp : partE A = fun v => match v with | .int i => some (some i) | _ => none := by
    funext v
    cases A <;> first | rfl | exact absurd rfl hn
  show PO X _ (LO' X.K cA W (evE P call A) (partE A))
  rw [hp]
  exact pol_some h
theorem d_slice {a : Expr} {lo hi : Option Expr} {A L H : MP.E} {p2 pos : Pos} (ha : DE P call X cA W a A) (hl : DO P call X cA W lo L) (hh : DO P call X cA W hi H) : DE P call X cA W (.Subscript a (.Slice lo hi none p2) pos) (.slice A L H) := pl_slice ha hl hh
theorem d_rev {a : Expr} {A : MP.E} {k} {p1 p2 p3 pos : Pos} (ha : DE P call X cA W a A) : DE P call X cA W (.Subscript a (.Slice none none (some (.UnaryOp .USub (.Constant (.int 1) k p1) p2)) p3) pos) (.rev A) := pl_rev ha
theorem d_m_append {a e : Expr} {es : List Expr} {A B : MP.E} {Bs : List MP.E} {apos cpos : Pos} (ho : DE P call X cA W a A) (ha : DA P call X cA W (e :: es) (B :: Bs)) (hbase : attributeBase a "append" X.env (eval a X.env) = eval a X.env := by kernel_rfl) (hfew : ((backTo cpos (starEach (e :: es) X.env)).all (fun x => !x.1) && (backToKw cpos (keywordEach [] X.env)).all (fun x => x.1.isSome) && decide ((e :: es).length + ([] : List Keyword).length + (if ([] : List Keyword).isEmpty then 0 else 1) < 30)) = true := by kernel_rfl) (hline : (apos.endLine == cpos.line) = true := by kernel_rfl) (hs : starEach (e :: es) X.env = (false, eval e X.env) :: starEach es X.env := by kernel_rfl) (hplain : (backTo cpos (starEach es X.env)).any (·.1) = false := by kernel_rfl) : DE P call X cA W (.Call (.Attribute a "append" apos) (e :: es) [] cpos) (.mt .append A (B :: Bs)) := pl_mt (m := .append) PySem.F.plainAttrs_list PySem.F.slot_list_append PySem.F.type_list_append mt_appendS ho ha hbase hfew hline hs hplain
theorem d_m_indexS {a e : Expr} {es : List Expr} {A B : MP.E} {Bs : List MP.E} {apos cpos : Pos} (ho : DE P call X cA W a A) (ha : DA P call X cA W (e :: es) (B :: Bs)) (hbase : attributeBase a "index" X.env (eval a X.env) = eval a X.env := by kernel_rfl) (hfew : ((backTo cpos (starEach (e :: es) X.env)).all (fun x => !x.1) && (backToKw cpos (keywordEach [] X.env)).all (fun x => x.1.isSome) && decide ((e :: es).length + ([] : List Keyword).length + (if ([] : List Keyword).isEmpty then 0 else 1) < 30)) = true := by kernel_rfl) (hline : (apos.endLine == cpos.line) = true := by kernel_rfl) (hs : starEach (e :: es) X.env = (false, eval e X.env) :: starEach es X.env := by kernel_rfl) (hplain : (backTo cpos (starEach es X.env)).any (·.1) = false := by kernel_rfl) : DE P call X cA W (.Call (.Attribute a "index" apos) (e :: es) [] cpos) (.mt .indexS A (B :: Bs)) := pl_mt (m := .indexS) PySem.F.plainAttrs_str PySem.F.slot_str_index PySem.F.type_str_index mt_indexSS ho ha hbase hfew hline hs hplain
theorem d_m_indexL {a e : Expr} {es : List Expr} {A B : MP.E} {Bs : List MP.E} {apos cpos : Pos} (ho : DE P call X cA W a A) (ha : DA P call X cA W (e :: es) (B :: Bs)) (hbase : attributeBase a "index" X.env (eval a X.env) = eval a X.env := by kernel_rfl) (hfew : ((backTo cpos (starEach (e :: es) X.env)).all (fun x => !x.1) && (backToKw cpos (keywordEach [] X.env)).all (fun x => x.1.isSome) && decide ((e :: es).length + ([] : List Keyword).length + (if ([] : List Keyword).isEmpty then 0 else 1) < 30)) = true := by kernel_rfl) (hline : (apos.endLine == cpos.line) = true := by kernel_rfl) (hs : starEach (e :: es) X.env = (false, eval e X.env) :: starEach es X.env := by kernel_rfl) (hplain : (backTo cpos (starEach es X.env)).any (·.1) = false := by kernel_rfl) : DE P call X cA W (.Call (.Attribute a "index" apos) (e :: es) [] cpos) (.mt .indexL A (B :: Bs)) := pl_mt (m := .indexL) PySem.F.plainAttrs_list PySem.F.slot_list_index PySem.F.type_list_index mt_indexLS ho ha hbase hfew hline hs hplain
theorem d_m_join {a e : Expr} {es : List Expr} {A B : MP.E} {Bs : List MP.E} {apos cpos : Pos} (ho : DE P call X cA W a A) (ha : DA P call X cA W (e :: es) (B :: Bs)) (hbase : attributeBase a "join" X.env (eval a X.env) = eval a X.env := by kernel_rfl) (hfew : ((backTo cpos (starEach (e :: es) X.env)).all (fun x => !x.1) && (backToKw cpos (keywordEach [] X.env)).all (fun x => x.1.isSome) && decide ((e :: es).length + ([] : List Keyword).length + (if ([] : List Keyword).isEmpty then 0 else 1) < 30)) = true := by kernel_rfl) (hline : (apos.endLine == cpos.line) = true := by kernel_rfl) (hs : starEach (e :: es) X.env = (false, eval e X.env) :: starEach es X.env := by kernel_rfl) (hplain : (backTo cpos (starEach es X.env)).any (·.1) = false := by kernel_rfl) : DE P call X cA W (.Call (.Attribute a "join" apos) (e :: es) [] cpos) (.mt .join A (B :: Bs)) := pl_mt (m := .join) PySem.F.plainAttrs_str PySem.F.slot_str_join PySem.F.type_str_join mt_joinS ho ha hbase hfew hline hs hplain
theorem d_m_split {a e : Expr} {es : List Expr} {A B : MP.E} {Bs : List MP.E} {apos cpos : Pos} (ho : DE P call X cA W a A) (ha : DA P call X cA W (e :: es) (B :: Bs)) (hbase : attributeBase a "split" X.env (eval a X.env) = eval a X.env := by kernel_rfl) (hfew : ((backTo cpos (starEach (e :: es) X.env)).all (fun x => !x.1) && (backToKw cpos (keywordEach [] X.env)).all (fun x => x.1.isSome) && decide ((e :: es).length + ([] : List Keyword).length + (if ([] : List Keyword).isEmpty then 0 else 1) < 30)) = true := by kernel_rfl) (hline : (apos.endLine == cpos.line) = true := by kernel_rfl) (hs : starEach (e :: es) X.env = (false, eval e X.env) :: starEach es X.env := by kernel_rfl) (hplain : (backTo cpos (starEach es X.env)).any (·.1) = false := by kernel_rfl) : DE P call X cA W (.Call (.Attribute a "split" apos) (e :: es) [] cpos) (.mt .split A (B :: Bs)) := pl_mt (m := .split) PySem.F.plainAttrs_str PySem.F.slot_str_split PySem.F.type_str_split mt_splitS ho ha hbase hfew hline hs hplain
theorem d_m_countL {a e : Expr} {es : List Expr} {A B : MP.E} {Bs : List MP.E} {apos cpos : Pos} (ho : DE P call X cA W a A) (ha : DA P call X cA W (e :: es) (B :: Bs)) (hbase : attributeBase a "count" X.env (eval a X.env) = eval a X.env := by kernel_rfl) (hfew : ((backTo cpos (starEach (e :: es) X.env)).all (fun x => !x.1) && (backToKw cpos (keywordEach [] X.env)).all (fun x => x.1.isSome) && decide ((e :: es).length + ([] : List Keyword).length + (if ([] : List Keyword).isEmpty then 0 else 1) < 30)) = true := by kernel_rfl) (hline : (apos.endLine == cpos.line) = true := by kernel_rfl) (hs : starEach (e :: es) X.env = (false, eval e X.env) :: starEach es X.env := by kernel_rfl) (hplain : (backTo cpos (starEach es X.env)).any (·.1) = false := by kernel_rfl) : DE P call X cA W (.Call (.Attribute a "count" apos) (e :: es) [] cpos) (.mt .countL A (B :: Bs)) := pl_mt (m := .countL) PySem.F.plainAttrs_list PySem.F.slot_list_count PySem.F.type_list_count mt_countLS ho ha hbase hfew hline hs hplain
theorem d_m_pop {a : Expr} {A : MP.E} {apos cpos : Pos} (ho : DE P call X cA W a A) (hbase : attributeBase a "pop" X.env (eval a X.env) = eval a X.env := by kernel_rfl) (hline : (apos.endLine == cpos.line) = true := by kernel_rfl) : DE P call X cA W (.Call (.Attribute a "pop" apos) [] [] cpos) (.mt .pop A []) := pl_mt0 (m := .pop) PySem.F.plainAttrs_list PySem.F.slot_list_pop PySem.F.type_list_pop mt_popS ho hbase hline
theorem d_isin_cls {d n : Nat} {x : Str} {a : Expr} {A : MP.E} {p p2 pos : Pos} (l : LF T X cA W call) (ha : DE P call X cA W a A) (hd : T.excs[d]? = some x := by kernel_rfl) (hn : T.excs.length = n := by kernel_rfl) (hf : decide (("isinstance" : Str) ∈ T.frees) = true := by kernel_rfl) (hg : X.env.kindOf ("isinstance" : Str) = some .globalImplicit := by kernel_rfl) (hx : X.env.kindOf x = some .globalImplicit := by kernel_rfl) (hdx : (x == ("__debug__" : Str)) = false := by kernel_rfl) (he : starEach [a, .Name x p2] X.env = (false, eval a X.env) :: starEach [.Name x p2] X.env := by kernel_rfl) (hpl : (backTo pos (starEach [.Name x p2] X.env)).any (·.1) = false := by kernel_rfl) : DE P call X cA W (.Call (.Name "isinstance" p) [a, .Name x p2] [] pos) (.isinst A (.cls d n)) := by
  subst hn
  exact pl_isinC (isa := P.isa) l.ef (List.getElem?_eq_some_iff.mp hd).1 hg (l.fr _ (of_decide_eq_true hf)) hx (l.ex d x hd).gC hdx ha he hpl
theorem d_isin_VE {n : Nat} {a : Expr} {A : MP.E} {p p2 pos : Pos} (l : LF T X cA W call) (ha : DE P call X cA W a A) (hn : T.excs.length = n := by kernel_rfl) (hf : decide (("isinstance" : Str) ∈ T.frees) = true := by kernel_rfl) (hf2 : decide (("ValueError" : Str) ∈ T.frees) = true := by kernel_rfl) (hg : X.env.kindOf ("isinstance" : Str) = some .globalImplicit := by kernel_rfl) (hx : X.env.kindOf ("ValueError" : Str) = some .globalImplicit := by kernel_rfl) (he : starEach [a, .Name "ValueError" p2] X.env = (false, eval a X.env) :: starEach [.Name "ValueError" p2] X.env := by kernel_rfl) (hpl : (backTo pos (starEach [.Name "ValueError" p2] X.env)).any (·.1) = false := by kernel_rfl) : DE P call X cA W (.Call (.Name "isinstance" p) [a, .Name "ValueError" p2] [] pos) (.isinst A (.cls 99 n)) := by
  subst hn
  exact pl_isinV (isa := P.isa) l.ef hg (l.fr _ (of_decide_eq_true hf)) hx (l.fr _ (of_decide_eq_true hf2)) ha he hpl
theorem dd_nil {pos : Pos} : PPs X pos [] [] (trsE P call X.K cA W []) := pps_nil
theorem dd_cons {k v : Expr} {ks : List (Option Expr)} {vs : List Expr} {A B : MP.E} {As : List MP.E} {pos : Pos} (hk : DE P call X cA W k A) (hv : DE P call X cA W v B) (hr : PPs X pos ks vs (trsE P call X.K cA W As)) : PPs X pos (some k :: ks) (v :: vs) (trsE P call X.K cA W (A :: B :: As)) := pps_cons hk hv hr
theorem d_disp {keys : List (Option Expr)} {values : List Expr} {A : MP.E} {As : List MP.E} {pos : Pos} (h : PPs X pos keys values (trsE P call X.K cA W (A :: As))) (ev : even (A :: As) = true := by kernel_rfl) (hall : keys.all (·.isSome) = true := by kernel_rfl) (hl : keys.length = values.length := by kernel_rfl) (h0 : keys ≠ [] := by exact fun z => nomatch z) (h15 : Nat.ble keys.length 15 = true := by kernel_rfl) : DE P call X cA W (.Dict keys values pos) (.dct false (A :: As) []) := pl_disp h ev hall hl h0 (Nat.le_of_ble_eq_true h15)
abbrev DB (P : Prog) (call : Call) (X : Cx) (cA : Nat → Addr) (W : WX) (i : Option Nat) (b : List Stmt) (E : MP.E) : Prop := PSs X b (LX X.K cA W i (evE P call E))
theorem b_asg {i : Nat} {x : Str} {e : Expr} {A : MP.E} {pos pos' : Pos} (l : LF T X cA W call) (he : DE P call X cA W e A) (hi : X.N[i]? = some x := by kernel_rfl) (hv : locB X x = true := by kernel_rfl) (hs : swapsWith e (some (.Name x pos')) pos.line X.env = pure false := by kernel_rfl) : DB P call X cA W (some i) [.Assign [.Name x pos'] e pos] A := bl_asg l.nd hi (loc_of hv).1 he hs (loc_of hv).2
theorem b_expr {e : Expr} {A : MP.E} {pos : Pos} (he : DE P call X cA W e A) (hs : swapsWith e none pos.line X.env = pure false := by kernel_rfl) : DB P call X cA W none [.Expr e pos] A := bl_expr he hs
theorem b_if {i : Option Nat} {c : Expr} {a b : List Stmt} {C A B : MP.E} {pos : Pos} (hc : DT P call X cA W c C) (ha : DB P call X cA W i a A) (hb : DB P call X cA W i b B) : DB P call X cA W i [.If c a b pos] (.ite C A B) := bl_if hc ha hb
theorem d_m_get {a e : Expr} {es : List Expr} {A B : MP.E} {Bs : List MP.E} {apos cpos : Pos} (l : LF T X cA W call) (ho : DE P call X cA W a A) (ha : DA P call X cA W (e :: es) (B :: Bs)) (hbase : attributeBase a "get" X.env (eval a X.env) = eval a X.env := by kernel_rfl) (hfew : ((backTo cpos (starEach (e :: es) X.env)).all (fun x => !x.1) && (backToKw cpos (keywordEach [] X.env)).all (fun x => x.1.isSome) && decide ((e :: es).length + ([] : List Keyword).length + (if ([] : List Keyword).isEmpty then 0 else 1) < 30)) = true := by kernel_rfl) (hline : (apos.endLine == cpos.line) = true := by kernel_rfl) (hs : starEach (e :: es) X.env = (false, eval e X.env) :: starEach es X.env := by kernel_rfl) (hplain : (backTo cpos (starEach es X.env)).any (·.1) = false := by kernel_rfl) : DE P call X cA W (.Call (.Attribute a "get" apos) (e :: es) [] cpos) (.mt .get A (B :: Bs)) := pl_mt (m := .get) PySem.F.plainAttrs_dict PySem.F.slot_dict_get PySem.F.type_dict_get (mt_getS (by have := l.un; omega)) ho ha hbase hfew hline hs hplain
theorem i_src {tg e : Expr} {A : MP.E} (ha : DE P call X cA W e A) : DI P call X cA W tg e (.src A) := pil_src ha
theorem i_enum (l : LF T X cA W call) {e : Expr} {A : MP.E} {p pos tpos : Pos} {elts : List Expr} {kk} (ha : DE P call X cA W e A) (hf : decide (("enumerate" : Str) ∈ T.frees) = true := by kernel_rfl) (hg : X.env.kindOf ("enumerate" : Str) = some .globalImplicit := by kernel_rfl) (hs : starEach [e] X.env = [(false, eval e X.env)] := by kernel_rfl) : DI P call X cA W (.Tuple elts kk tpos) (.Call (.Name "enumerate" p) [e] [] pos) (.enum A) := pil_enum hg (l.fr _ (of_decide_eq_true hf)) ha hs
theorem i_zip (l : LF T X cA W call) {e e2 : Expr} {A B : MP.E} {p pos tpos : Pos} {elts : List Expr} {kk} (ha : DE P call X cA W e A) (hb : DE P call X cA W e2 B) (hf : decide (("zip" : Str) ∈ T.frees) = true := by kernel_rfl) (hg : X.env.kindOf ("zip" : Str) = some .globalImplicit := by kernel_rfl) (hs : starEach [e, e2] X.env = (false, eval e X.env) :: starEach [e2] X.env := by kernel_rfl) (hs2 : starEach [e2] X.env = [(false, eval e2 X.env)] := by kernel_rfl) (hpl : (backTo pos (starEach [e2] X.env)).any (·.1) = false := by kernel_rfl) : DI P call X cA W (.Tuple elts kk tpos) (.Call (.Name "zip" p) [e, e2] [] pos) (.zip A B) := pil_zip hg (l.fr _ (of_decide_eq_true hf)) ha hb hs hs2 hpl
theorem i_range1 (l : LF T X cA W call) {tg e : Expr} {A : MP.E} {p pos : Pos} (ha : DA P call X cA W [e] [A]) (hf : decide (("range" : Str) ∈ T.frees) = true := by kernel_rfl) (hg : X.env.kindOf ("range" : Str) = some .globalImplicit := by kernel_rfl) (hs : starEach [e] X.env = [(false, eval e X.env)] := by kernel_rfl) : DI P call X cA W tg (.Call (.Name "range" p) [e] [] pos) (.range [A]) := pil_range1 hg (l.fr _ (of_decide_eq_true hf)) ha (fun env h vs h1 e => evEs_len _ _ _ _ _ e) hs
theorem i_range2 (l : LF T X cA W call) {tg e e2 : Expr} {A B : MP.E} {p pos : Pos} (ha : DA P call X cA W [e, e2] [A, B]) (hf : decide (("range" : Str) ∈ T.frees) = true := by kernel_rfl) (hg : X.env.kindOf ("range" : Str) = some .globalImplicit := by kernel_rfl) (hs : starEach [e, e2] X.env = [(false, eval e X.env), (false, eval e2 X.env)] := by kernel_rfl) (hs2 : starEach [e2] X.env = [(false, eval e2 X.env)] := by kernel_rfl) : DI P call X cA W tg (.Call (.Name "range" p) [e, e2] [] pos) (.range [A, B]) := pil_range2 hg (l.fr _ (of_decide_eq_true hf)) ha (fun env h vs h1 e => evEs_len _ _ _ _ _ e) hs hs2
theorem i_range3 (l : LF T X cA W call) {tg e e2 e3 : Expr} {A B C : MP.E} {p pos : Pos} (ha : DA P call X cA W [e, e2, e3] [A, B, C]) (hf : decide (("range" : Str) ∈ T.frees) = true := by kernel_rfl) (hg : X.env.kindOf ("range" : Str) = some .globalImplicit := by kernel_rfl) (hs : starEach [e, e2, e3] X.env = (false, eval e X.env) :: starEach [e2, e3] X.env := by kernel_rfl) (hpl : (backTo pos (starEach [e2, e3] X.env)).any (·.1) = false := by kernel_rfl) : DI P call X cA W tg (.Call (.Name "range" p) [e, e2, e3] [] pos) (.range [A, B, C]) := pil_range3 hg (l.fr _ (of_decide_eq_true hf)) ha (fun env h vs h1 e => evEs_len _ _ _ _ _ e) hs hpl
theorem g_name {i : Nat} {x : Str} {pos : Pos} (l : LF T X cA W call) (hi : X.N[i]? = some x := by kernel_rfl) (hv : locB X x = true := by kernel_rfl) : PG X (.Name x pos) (tgG X.K (.name i)) := pgl_name l.nd hi (loc_of hv).1 (loc_of hv).2
theorem gs_nil  : PGs X [] (tgGs X.K []) := pgsl_nil
theorem gs_cons {e : Expr} {es : List Expr} {t : Tg} {ts : List Tg} (h1 : PG X e (tgG X.K t)) (h2 : PGs X es (tgGs X.K ts)) (hs : (assignEach (e :: es) X.env).map (·.2) = assign e X.env :: (assignEach es X.env).map (·.2) := by kernel_rfl) : PGs X (e :: es) (tgGs X.K (t :: ts)) := pgsl_cons h1 h2 hs
theorem g_tup {es : List Expr} {k} {ts : List Tg} {pos : Pos} (l : LF T X cA W call) (h : PGs X es (tgGs X.K ts)) (hn : (assignEach es X.env).length = ts.length := by kernel_rfl) (hst : (assignEach es X.env).findIdx? (·.1) = none := by kernel_rfl) : PG X (.Tuple es k pos) (tgG X.K (.tup ts)) := pgl_tup l.cm h hn hst
theorem ts_nil  : DTs P call X cA W [] [] := ptsl_nil
theorem ts_one {c : Expr} {C : MP.E} (h : DT P call X cA W c C) : DTs P call X cA W [c] [C] := ptsl_one h
theorem d_lc {elt tg iter : Expr} {ifs : List Expr} {scope : Scope} {own : List (Str × Nat)} {pos : Pos} {It : MP.E} {t : Tg} {Ts : List MP.E} {El : MP.E} (l : LF T X cA W call) (hi : DI P call X cA W tg iter It) (hg : ∀ (s : Shared) (H : Hp) (C : Addr) (cl : List (Str × Addr)) (fp : List Addr), LF T (X.blk s H scope (compEnvC scope cl C X.env) fp) cA NoX call → PG (X.blk s H scope (compEnvC scope cl C X.env) fp) tg (tgG (X.blk s H scope (compEnvC scope cl C X.env) fp).K t)) (ht : ∀ (s : Shared) (H : Hp) (C : Addr) (cl : List (Str × Addr)) (fp : List Addr), LF T (X.blk s H scope (compEnvC scope cl C X.env) fp) cA NoX call → DTs P call (X.blk s H scope (compEnvC scope cl C X.env) fp) cA NoX ifs Ts) (he : ∀ (s : Shared) (H : Hp) (C : Addr) (cl : List (Str × Addr)) (fp : List Addr), LF T (X.blk s H scope (compEnvC scope cl C X.env) fp) cA NoX call → DE P call (X.blk s H scope (compEnvC scope cl C X.env) fp) cA NoX elt El) (ok : blkC X.N X.env.scope scope own = true := by kernel_rfl) (hsl : (slots t).all (fun j => (own.map (·.2)).contains j) = true := by kernel_rfl) (hs : ∀ x, foldedSetIterable iter X.env x = pure x := by intro _; kernel_rfl) : DE P call X cA W (.ListComp elt [⟨tg, iter, ifs, 0⟩] scope pos) (.comp El t It Ts (own.map (·.2))) := pl_lc l.cm l.nd hi (blkOk_by ok) (fun s H C cl fp => hg s H C cl fp (l.blk s H scope _ fp)) (fun s H C cl fp => ht s H C cl fp (l.blk s H scope _ fp)) (fun s H C cl fp => he s H C cl fp (l.blk s H scope _ fp)) (fun j hj => by have := List.all_eq_true.mp hsl j hj; simpa using this) hs
theorem ss_nil  : DSs P call wf X cA W [] [] := psl_nil
theorem ss_cons {st : Stmt} {rest : List Stmt} {S : MP.S} {Ss : List MP.S} (h1 : DS P call wf X cA W st S) (h2 : DSs P call wf X cA W rest Ss) : DSs P call wf X cA W (st :: rest) (S :: Ss) := psl_cons h1 h2
theorem s_pass {pos : Pos} : DS P call wf X cA W (.Pass pos) .pass := psl_pass
theorem s_cont {pos : Pos} : DS P call wf X cA W (.Continue pos) .cont := psl_cont
theorem s_expr {e : Expr} {A : MP.E} {pos : Pos} (he : DE P call X cA W e A) (hs : swapsWith e none pos.line X.env = pure false := by kernel_rfl) : DS P call wf X cA W (.Expr e pos) (.expr A) := psl_expr he hs
theorem s_ret {e : Expr} {A : MP.E} {pos : Pos} (he : DE P call X cA W e A) : DS P call wf X cA W (.Return (some e) pos) (.ret A) := psl_ret he
theorem s_retN {pos : Pos} : DS P call wf X cA W (.Return none pos) .retN := psl_retN
theorem s_set {i : Nat} {x : Str} {e : Expr} {A : MP.E} {pos pos' : Pos} (l : LF T X cA W call) (he : DE P call X cA W e A) (hi : X.N[i]? = some x := by kernel_rfl) (hv : locB X x = true := by kernel_rfl) (hs : swapsWith e (some (.Name x pos')) pos.line X.env = pure false := by kernel_rfl) : DS P call wf X cA W (.Assign [.Name x pos'] e pos) (.asg (.name i) A) := psl_set l.nd hi (loc_of hv).1 he hs (loc_of hv).2
theorem s_aug {i : Nat} {x : Str} {e : Expr} {A : MP.E} {pos pos' : Pos} (l : LF T X cA W call) (he : DE P call X cA W e A) (hi : X.N[i]? = some x := by kernel_rfl) (hv : locB X x = true := by kernel_rfl) : DS P call wf X cA W (.AugAssign (.Name x pos') .Add e pos) (.aug i .add A) := psl_aug l.nd hi (loc_of hv).1 he aug_addS (loc_of hv).2
theorem s_asg {tg e : Expr} {g : Tg} {A : MP.E} {pos : Pos} (he : DE P call X cA W e A) (hg : PG X tg (tgG X.K g)) (hs : swapsWithSole [tg] e pos.line X.env = pure false := by kernel_rfl) (hw : swappedStores [tg] e X.env = pure none := by kernel_rfl) (h1 : (assignEach [tg] X.env).map (·.2) = [assign tg X.env] := by kernel_rfl) : DS P call wf X cA W (.Assign [tg] e pos) (.asg g A) := psl_asg he hg hs hw h1
theorem s_setLc {i : Nat} {y : Str} {py spos : Pos} {elt tg iter : Expr} {ifs : List Expr} {scope : Scope} {own : List (Str × Nat)} {pos : Pos} {It : MP.E} {t : Tg} {Ts : List MP.E} {El : MP.E} (l : LF T X cA W call) (hi : DI P call X cA W tg iter It) (hg : ∀ (s : Shared) (H : Hp) (C : Addr) (cl : List (Str × Addr)) (fp : List Addr), LF T (X.blk s H scope (compEnvC scope cl C X.env) fp) cA NoX call → PG (X.blk s H scope (compEnvC scope cl C X.env) fp) tg (tgG (X.blk s H scope (compEnvC scope cl C X.env) fp).K t)) (ht : ∀ (s : Shared) (H : Hp) (C : Addr) (cl : List (Str × Addr)) (fp : List Addr), LF T (X.blk s H scope (compEnvC scope cl C X.env) fp) cA NoX call → DTs P call (X.blk s H scope (compEnvC scope cl C X.env) fp) cA NoX ifs Ts) (he : ∀ (s : Shared) (H : Hp) (C : Addr) (cl : List (Str × Addr)) (fp : List Addr), LF T (X.blk s H scope (compEnvC scope cl C X.env) fp) cA NoX call → DE P call (X.blk s H scope (compEnvC scope cl C X.env) fp) cA NoX elt El) (ok : blkC X.N X.env.scope scope own = true := by kernel_rfl) (hsl : (slots t).all (fun j => (own.map (·.2)).contains j) = true := by kernel_rfl) (hs : ∀ x, foldedSetIterable iter X.env x = pure x := by intro _; kernel_rfl) (hy : X.N[i]? = some y := by kernel_rfl) (hyl : X.env.scope.names.lookup y = some .local := by kernel_rfl) (hsw : swapsWith (.ListComp elt [⟨tg, iter, ifs, 0⟩] scope pos) (some (.Name y py)) spos.line X.env = pure true := by kernel_rfl) : DS P call wf X cA W (.Assign [.Name y py] (.ListComp elt [⟨tg, iter, ifs, 0⟩] scope pos) spos) (.asg (.name i) (.comp El t It Ts (own.map (·.2)))) := psl_setLc l.cm l.nd hy hyl hsw hi (blkOk_by ok) (fun s H C cl fp => hg s H C cl fp (l.blk s H scope _ fp)) (fun s H C cl fp => ht s H C cl fp (l.blk s H scope _ fp)) (fun s H C cl fp => he s H C cl fp (l.blk s H scope _ fp)) (fun j hj => by have := List.all_eq_true.mp hsl j hj; simpa using this) hs
theorem s_par {i j : Nat} {x y : Str} {a b : Expr} {As : List MP.E} {px py pt pos : Pos} {kt k2 pt2} (l : LF T X cA W call) (ha : DA P call X cA W [a, b] As) (hi : X.N[i]? = some x := by kernel_rfl) (hj : X.N[j]? = some y := by kernel_rfl) (hij : i ≠ j := by decide) (hx : X.env.scope.names.lookup x = some .local := by kernel_rfl) (hy : X.env.scope.names.lookup y = some .local := by kernel_rfl) (hw : swappedStores [.Tuple [.Name x px, .Name y py] kt pt] (.Tuple [a, b] k2 pt2) X.env = pure (some [x, y]) := by kernel_rfl) (hs : swapsWithSole [.Tuple [.Name x px, .Name y py] kt pt] (.Tuple [a, b] k2 pt2) pos.line X.env = pure false := by kernel_rfl) : DS P call wf X cA W (.Assign [.Tuple [.Name x px, .Name y py] kt pt] (.Tuple [a, b] k2 pt2) pos) (.par [i, j] As) := psl_par l.cm l.nd hi hj hij hx hy ha hw hs
theorem s_par3 {i j m : Nat} {x y z : Str} {a b c : Expr} {As : List MP.E} {px py pz pt pos : Pos} {kt k2 pt2} (l : LF T X cA W call) (ha : DA P call X cA W [a, b, c] As) (hi : X.N[i]? = some x := by kernel_rfl) (hj : X.N[j]? = some y := by kernel_rfl) (hl : X.N[m]? = some z := by kernel_rfl) (hij : i ≠ j := by decide) (hil : i ≠ m := by decide) (hjl : j ≠ m := by decide) (hx : X.env.scope.names.lookup x = some .local := by kernel_rfl) (hy : X.env.scope.names.lookup y = some .local := by kernel_rfl) (hz : X.env.scope.names.lookup z = some .local := by kernel_rfl) (hw : swappedStores [.Tuple [.Name x px, .Name y py, .Name z pz] kt pt] (.Tuple [a, b, c] k2 pt2) X.env = pure (some [x, y, z]) := by kernel_rfl) (hs : swapsWithSole [.Tuple [.Name x px, .Name y py, .Name z pz] kt pt] (.Tuple [a, b, c] k2 pt2) pos.line X.env = pure false := by kernel_rfl) : DS P call wf X cA W (.Assign [.Tuple [.Name x px, .Name y py, .Name z pz] kt pt] (.Tuple [a, b, c] k2 pt2) pos) (.par [i, j, m] As) := psl_par3 l.cm l.nd hi hj hl hij hil hjl hx hy hz ha hw hs
theorem s_if {c : Expr} {a b : List Stmt} {C : MP.E} {A B : List MP.S} {pos : Pos} (hc : DT P call X cA W c C) (ha : DSs P call wf X cA W a A) (hb : DSs P call wf X cA W b B) : DS P call wf X cA W (.If c a b pos) (.ife C A B) := psl_if hc ha hb
theorem s_for {tg iter : Expr} {body : List Stmt} {It : MP.E} {g : Tg} {B : List MP.S} {pos : Pos} (l : LF T X cA W call) (hp : PassesOwn (model X.prog X.w) X.A X.env X.xe) (hi : DI P call X cA W tg iter It) (hg : PG X tg (tgG X.K g)) (hb : DSs P call wf X cA W body B) (hs : ∀ x, foldedSetIterable iter X.env x = pure x := by intro _; kernel_rfl) : DS P call wf X cA W (.For tg iter body [] pos) (.for g It B) := psl_for hp l.cm hi hg hb hs
theorem s_while {c : Expr} {body : List Stmt} {C : MP.E} {B : List MP.S} {pos : Pos} (hp : PassesOwn (model X.prog X.w) X.A X.env X.xe) (hc : DT P call X cA W c C) (hb : DSs P call wf X cA W body B) : DS P call wf X cA W (.While c body [] pos) (.while C B) := psl_while hp hc hb
theorem s_raise {c : Nat} {x m : Str} {j} {p p2 p3 pos : Pos} (l : LF T X cA W call) (hx : T.excs[c]? = some x := by kernel_rfl) (hg : X.env.kindOf x = some .globalImplicit := by kernel_rfl) (hd : (x == ("__debug__" : Str)) = false := by kernel_rfl) : DS P call wf X cA W (.Raise (some (.Call (.Name x p) [.Constant (.str m) j p2] [] p3)) none pos) (.raise c) := by
  have E := l.ex c x hx
  obtain ⟨B, nw, ini, bm, F, q⟩ := E.f
  exact psl_raise l.cm l.tk (pmk_own F q E.gC E.kC E.r hg hd)
theorem s_seti {o i e : Expr} {O I A : MP.E} {pos pos' : Pos} (l : LF T X cA W call) (ho : DE P call X cA W o O) (hi : DE P call X cA W i I) (he : DE P call X cA W e A) (ha : ∀ v, assign (.Subscript o i pos') X.env v = (do let ov ← holding [v] (eval o X.env); let iv ← holding [v, ov] (eval i X.env); standAt pos'; holding [v, ov, iv] (setItem ov iv v); release [v, ov, iv] []) := by intro _; kernel_rfl) (hs : swapsWithSole [.Subscript o i pos'] e pos.line X.env = pure false := by kernel_rfl) (hw : swappedStores [.Subscript o i pos'] e X.env = pure none := by kernel_rfl) (h1 : (assignEach [.Subscript o i pos'] X.env).map (·.2) = [assign (.Subscript o i pos') X.env] := by kernel_rfl) : DS P call wf X cA W (.Assign [.Subscript o i pos'] e pos) (.seti O I A) := psl_seti l.un ho hi he ha hs hw h1
theorem s_try {ne : Nat} {i : Option Nat} {jn jm : Nat} {x n m : Str} {body : List Stmt} {A : MP.E} {np nm nv pos pos' pa : Pos} (l : LF T X cA W call) (hb : ∀ (W : WX) (pn : List (Addr × Obj)) (xe : Value → Shared → Prop), LF T (X.tr pn xe) cA W call → PassesOwn (model X.prog X.w) X.A X.env xe → DB P call (X.tr pn xe) cA W i body A) (hx : T.excs[0]? = some x := by kernel_rfl) (hne : T.excs.length = ne := by kernel_rfl) (hex : X.ex = [] := by rfl) (hs : X.stack = X.env :: X.outer := by rfl) (hf : X.env.frame = some X.env.locals := by rfl) (hi : X.N[jn]? = some n := by kernel_rfl) (hj : X.N[jm]? = some m := by kernel_rfl) (hij : jn ≠ jm := by decide) (hln : X.env.kindOf n = some .local := by kernel_rfl) (hvn : visB X.env.scope n = true := by kernel_rfl) (hlm : X.env.scope.names.lookup m = some .local := by kernel_rfl) (hg : X.env.kindOf x = some .globalImplicit := by kernel_rfl) (hd : (x == ("__debug__" : Str)) = false := by kernel_rfl) (hd1 : (n == ("__debug__" : Str)) = false := by kernel_rfl) (hd2 : (n == ("__classdict__" : Str)) = false := by kernel_rfl) (hsw : ∀ (a : Addr) (pn : List (Addr × Obj)), swapsWith (.Name n nv) (some (.Name m nm)) pa.line (X.suite a pn).env = pure false := by intro _ _; kernel_rfl) : DS P call wf X cA W (.Try body [.ExceptHandler (some (.Name x np)) (some n) [.Assign [.Name m nm] (.Name n nv) pa] pos'] [] [] pos) (.try_ i A jn jm ne) := by
  subst hne
  exact psl_try l.ef hex hs hf l.nd hi hj hij hln (vis_of hvn) hlm ⟨hg, hd, .inl (l.ex 0 x hx).gC⟩ hd1 hd2 hsw fun W pn xe tk hp => hb W pn xe (l.tr tk) hp
end
end MP

namespace MP
open PySem PySem.Spec PyProof.Rows L2
/-! ### a def keeps its promise -/
def spN (K : PySem.W.Frag) (cA : Nat → Addr) (Pg : Prog) (wf k i np : Nat) : Sp := spF K cA (fun h vs => evF Pg wf k i vs h) np
abbrev WE' (E : XK) : WX := fun c d _ H => E c d H
structure GF (T : Tb) (K : PySem.W.Frag) (mg : Str → Option Value) (cA : Nat → Addr) (fA : Nat → Addr) (fD : Nat → FuncData) : Prop where
  fn : ∀ i, i < T.fns.length → mg (T.fns.getD i ("", [])).1 = some (.ref (fA i)) ∧ PySem.W.keepIn K (.ref (fA i)) = true ∧ Binds K (fD i) (T.fns.getD i ("", [])).2 []
  fr : ∀ x, x ∈ T.frees → mg x = none
  ex : ∀ (i : Nat) x, T.excs[i]? = some x → mg x = some (.ref (cA i)) ∧ PySem.W.excIn K (cA i) He.veBase "ValueError.__new__" = true ∧ PySem.W.keepIn K (.ref (cA i)) = true ∧ PySem.W.subIn K (.ref (cA i)) (.type "BaseException") = some true ∧ PySem.W.typeIn K (.ref (cA i)) = some (.type "type")
  cn : ∀ (i : Nat), i < T.cons.length → ∃ u, mg (T.cons.getD i ("", .non)).1 = some u ∧ ConstR K (T.cons.getD i ("", .non)).2 u
  ef : EF T.excs.length K cA
def AllOk (P : Program) (w : World) (K : PySem.W.Frag) (mg : Str → Option Value) (base : Heap) (T : Tb) (cA : Nat → Addr) (fA : Nat → Addr) (fD : Nat → FuncData) (Pg : Prog) (wf k : Nat) : Prop :=
  ∀ i, i < T.fns.length → FnOk P w K mg base (L2.CX P w) k (fA i) (fD i) (T.fns.getD i ("", [])).2 (spN K cA Pg wf k i (T.fns.getD i ("", [])).2.length)
section
variable {P : Program} {w : World} {K : PySem.W.Frag} {mg : Str → Option Value} {base : Heap} {T : Tb} {cA : Nat → Addr} {fA : Nat → Addr} {fD : Nat → FuncData} {Pg : Prog} {wf k : Nat}
theorem AllOk.zero : AllOk P w K mg base T cA fA fD Pg wf 0 := fun i hi => by
  refine ⟨fun vs H Q E h => h.1, fun A outer s H args us vs Q E hr he hb hv h => ?_⟩
  obtain ⟨hl, ρ, hq, as, sim, rl, hw⟩ := h
  exact hw.elim
theorem LF.of (G : GF T K mg cA fA fD) (ok : AllOk P w K mg base T cA fA fD Pg wf k) {N : List Str} {qual : Str} {scope : Scope} {f : Addr} {cdv : Value} {A : Around} {outer : List PySem.Env} {s : Shared} {H : Hp} {E : XK} (hr : Room k (A.deeper (envOfC qual scope s.heap.objs.size f cdv))) (nd : N.Nodup) :
    LF T (cxOf (L2.CX P w) P w K mg base N qual scope f cdv A outer s H E) cA (WE' E) (evF Pg wf k) where
  cm := rfl
  nd := nd
  un := by have := hr.un; show (A.deeper _).units + 65 < cLine; omega
  tk := takes_of rfl rfl rfl rfl
  fn := fun i hi => ⟨fA i, fD i, k, ok i hi, hr, (G.fn i hi).1, (G.fn i hi).2.1, (G.fn i hi).2.2⟩
  fr := G.fr
  ex := fun i x e => ⟨(G.ex i x e).1, (G.ex i x e).2.2.1, raises_own (G.ex i x e).2.2.2.1 (G.ex i x e).2.2.2.2, "ValueError", _, _, _, PySem.F.excBase_ValueError, (G.ex i x e).2.1⟩
  cn := G.cn
  ef := G.ef
theorem passes {N : List Str} {qual : Str} {scope : Scope} {f : Addr} {cdv : Value} {A : Around} {outer : List PySem.Env} {s : Shared} {H : Hp} {E : XK} (X : Cx) (hX : X = cxOf (L2.CX P w) P w K mg base N qual scope f cdv A outer s H E) : PassesOwn (model X.prog X.w) X.A X.env X.xe := by
  subst hX
  exact passes_of (X := cxOf (L2.CX P w) P w K mg base N qual scope f cdv A outer s H E) rfl
theorem start_sim {ρ : Nat → Addr} {n : Nat} {H : Hp} {as : List PV} {vs : List V} (r : RepL K ρ n H as vs) (m : Nat) : SimE K ρ n H (as.map some ++ List.replicate m none) (vs.map some ++ List.replicate m none) := by
  refine ⟨by rw [List.length_append, List.length_append, List.length_map, List.length_map, List.length_replicate, List.length_replicate, r.length], fun i v e => ?_⟩
  by_cases hi : i < as.length
  · rw [List.getElem?_append_left (by rw [List.length_map]; exact hi), List.getElem?_map] at e
    rw [List.getElem?_append_left (by rw [List.length_map, ← r.length]; exact hi), List.getElem?_map]
    cases ea : as[i]? with
    | none => rw [ea] at e; cases e
    | some a =>
      rw [ea] at e
      cases e
      obtain ⟨u, h1, h2⟩ := r.get ea
      exact ⟨u, by rw [h1]; rfl, h2⟩
  · rw [List.getElem?_append_right (by rw [List.length_map]; omega)] at e
    rw [List.getElem?_replicate] at e
    split at e
    · cases e
    · cases e
theorem fn_mk {x qual : Str} {params : Arguments} {body : List Stmt} {scope : Scope} {f : Addr} {fd : FuncData} (F : FunD K x qual params body scope [] [] f fd) {N ps : List Str} (S : FnScope N ps scope) {i : Nat} {d : Fn} (hd : Pg.fns[i]? = some d) (hnp : d.np = ps.length) (hnl : d.nl = N.length)
    (G : GF T K mg cA fA fD) (ok : AllOk P w K mg base T cA fA fD Pg wf k)
    (hb : ∀ (X : Cx) (E : XK), (∃ cdv A outer s H, X = cxOf (L2.CX P w) P w K mg base N qual scope f cdv A outer s H E) → LF T X cA (WE' E) (evF Pg wf k) → PassesOwn (model X.prog X.w) X.A X.env X.xe → DSs Pg (evF Pg wf k) wf X cA (WE' E) body d.body) :
    FnOk P w K mg base (L2.CX P w) (k + 1) f fd ps (spN K cA Pg wf (k + 1) i ps.length) := by
  refine F.ok S (fun vs H Q E h => h.1) fun cdv A outer s H vs Q E hr hsp => ⟨_, hb _ E ⟨cdv, A, outer, s, H, rfl⟩ (LF.of G ok hr S.nd) (passes _ rfl), ?_⟩
  obtain ⟨hl, ρ, hq, as, sim, rl, hw⟩ := hsp
  have hla : as.length = d.np := by rw [rl.length, hl, hnp]
  have e : evF Pg wf (k + 1) i as hq = (xSs Pg (evF Pg wf k) wf d.body (as.map some ++ List.replicate (d.nl - d.np) none) hq).bind rtOf := by
    show (match Pg.fns[i]? with
      | some d => if as.length = d.np then (xSs Pg (evF Pg wf k) wf d.body (as.map some ++ List.replicate (d.nl - d.np) none) hq).bind rtOf else .fail
      | none => .fail) = _
    rw [hd]
    exact if_pos hla
  have hw : (evF Pg wf (k + 1) i as hq).wp _ _ := hw
  rw [e, Res.wp_bind] at hw
  refine ⟨ρ, hq, _, sim, by rw [show L2.start N vs = vs.map some ++ List.replicate (d.nl - d.np) none by unfold L2.start; rw [hnl, hnp, hl]]; exact start_sim rl _, Res.wp_mono hw (fun p h1 hv => ?_) fun c h1 hc ρ1 H1 σ1 le1 sim1 => hc ρ1 H1 le1 sim1⟩
  intro ρ1 H1 σ1 le1 sim1 se1
  obtain ⟨fl, env1⟩ := p
  cases fl with
  | next => exact hv ρ1 H1 _ le1 sim1 .non
  | cont => exact hv.elim
  | ret v => exact fun u r => hv ρ1 H1 u le1 sim1 r
end
/-! ### the hook: facts by names, with tuples -/
abbrev TuF : Type := Str × List He.Dv
abbrev AlM : Type := He.AlD × Bool
/-- the facts of the classes of exceptions -/
def isBi (o : Option (Option Value)) (s : String) : Bool := match o with
  | some (some (.builtin t)) => t == s
  | _ => false
theorem isBi_ok {o : Option (Option Value)} {s : String} (h : isBi o s = true) : o = some (some (.builtin s)) := by
  unfold isBi at h
  split at h
  · rw [eq_of_beq h]
  · cases h
def isNo (o : Option (Option Value)) : Bool := match o with
  | some none => true
  | _ => false
theorem isNo_ok {o : Option (Option Value)} (h : isNo o = true) : o = some none := by
  unfold isNo at h
  split at h
  · rfl
  · cases h
def isBo (o : Option Bool) (b : Bool) : Bool := match o with
  | some c => c == b
  | none => false
theorem isBo_ok {o : Option Bool} {b : Bool} (h : isBo o b = true) : o = some b := by
  unfold isBo at h
  split at h
  · rw [eq_of_beq h]
  · cases h
def excCB (K : PySem.W.Frag) (D : Addr) : Bool :=
  isBi (PySem.W.findIn K (.ref D) "__getattribute__") "BaseException.__getattribute__" && (isNo (PySem.W.findIn K (.ref D) "__getattr__") && (isBo (PySem.W.subIn K (.ref D) (.type "BaseException")) true && (PySem.W.hasDictIn K D && (isBi (PySem.W.findIn K (.ref D) "__class__") "object.__class__" && (isBi (PySem.W.specialIn K (.builtin "object.__class__") "__get__") "getset_descriptor.__get__" && (isBo (PySem.W.takesIn K (.builtin "object.__class__")) true && isBo (PySem.W.mroIn K D (.type "object")) true))))))
theorem excCB_ok {K : PySem.W.Frag} {D : Addr} (h : excCB K D = true) : L2.ExcC K D := by
  unfold excCB at h
  simp only [Bool.and_eq_true] at h
  obtain ⟨a, b, c, d, e, f, g, i⟩ := h
  exact ⟨isBi_ok a, isNo_ok b, isBo_ok c, d, isBi_ok e, isBi_ok f, isBo_ok g, isBo_ok i⟩
def clsB (K : PySem.W.Frag) (a : Nat → Addr) (n : Nat) : Bool := (List.range n).all fun c => excCB K (a c) && (((List.range n).all fun d => isBo (PySem.W.kitOne K (.ref (a c)) (.ref (a d))) (isaE c d)) && (isBo (PySem.W.kitOne K (.ref (a c)) (.type "ValueError")) true && isBo (PySem.W.exmOne K (.ref (a c)) (.ref (a 0))) true))
theorem clsB_ok {K : PySem.W.Frag} {a : Nat → Addr} {n : Nat} (h : clsB K a n = true) : EF n K a := by
  have one : ∀ c, c < n → _ := fun c hc => List.all_eq_true.mp h c (List.mem_range.mpr hc)
  simp only [Bool.and_eq_true] at one
  exact ⟨fun c hc => excCB_ok (one c hc).1, fun c d hc hd => isBo_ok (List.all_eq_true.mp (one c hc).2.1 d (List.mem_range.mpr hd)), fun c hc => isBo_ok (one c hc).2.2.1, fun c hc => isBo_ok (one c hc).2.2.2⟩
def obsM (fa : List He.Fa) (fn : List He.DefD) (ts : List TuF) (xs : List Str) (K : PySem.W.Frag) : AlM := (He.obsD fa fn K, (ts.all fun t => He.tupB K t.1 t.2) && clsB K (fun i => He.ga K (xs.getD i "")) xs.length)
def valM (fn : List He.DefD) : AlM := (He.valD fn, true)
def obsMG (n : Nat) (fa : List He.Fa) (fn : List He.DefD) (ts : List TuF) (xs : List Str) (g : Addr → Option Obj) : AlM := obsM fa fn ts xs (He.frG g (He.asD g n))
def SaysM (fa : List He.Fa) (fn : List He.DefD) (ts : List TuF) (xs : List Str) (K : PySem.W.Frag) : Prop := obsM fa fn ts xs K = valM fn
def hookM (n : Nat) (fa : List He.Fa) (fn : List He.DefD) (ts : List TuF) (xs : List Str) : PySem.W.Hook where
  α := AlM
  obs := fun s => obsMG n fa fn ts xs s.heap.get?
  val := fun _ => valM fn
  says := fun _ h => ∃ K : PySem.W.Frag, K.In h ∧ SaysM fa fn ts xs K
  of := fun _ _ e => ⟨_, He.frG_in, e⟩
  keeps := fun _ _ _ ⟨K, hK, c⟩ k => ⟨K, PySem.W.Frag.In.keeps hK k, c⟩
theorem obsMG_eq {n : Nat} {fa : List He.Fa} {fn : List He.DefD} {ts : List TuF} {xs : List Str} {g : Addr → Option Obj} {s : Shared} (h : ∀ a, g a = s.heap.get? a) : obsMG n fa fn ts xs g = (hookM n fa fn ts xs).obs s := by
  have e : g = s.heap.get? := funext h
  rw [e] <;> rfl
theorem SaysM.d {fa : List He.Fa} {fn : List He.DefD} {ts : List TuF} {xs : List Str} {K : PySem.W.Frag} (c : SaysM fa fn ts xs K) : He.SaysD fa fn K := congrArg (fun z : AlM => z.1) c
theorem SaysM.tu {fa : List He.Fa} {fn : List He.DefD} {ts : List TuF} {xs : List Str} {K : PySem.W.Frag} (c : SaysM fa fn ts xs K) (i : Nat) {t : TuF} (h : ts[i]? = some t := by rfl) : He.tupB K t.1 t.2 = true := by
  have e : ((ts.all fun t => He.tupB K t.1 t.2) && clsB K (fun i => He.ga K (xs.getD i "")) xs.length) = true := congrArg (fun z : AlM => z.2) c
  rw [Bool.and_eq_true] at e
  exact List.all_eq_true.mp e.1 t (List.mem_of_getElem? h)
theorem SaysM.cl {fa : List He.Fa} {fn : List He.DefD} {ts : List TuF} {xs : List Str} {K : PySem.W.Frag} (c : SaysM fa fn ts xs K) : EF xs.length K (fun i => He.ga K (xs.getD i "")) := by
  have e : ((ts.all fun t => He.tupB K t.1 t.2) && clsB K (fun i => He.ga K (xs.getD i "")) xs.length) = true := congrArg (fun z : AlM => z.2) c
  rw [Bool.and_eq_true] at e
  exact clsB_ok e.2
/-! ### constants -/
theorem const_str {K : PySem.W.Frag} {s : List Nat} {x : Str} {t : Tok} (hx : x = toS s) (o1 : Nat.ble s.length SL = true) (o2 : s.all (fun c => Nat.blt c 128) = true) : ConstR K (.str s) (.str x t) := by
  subst hx
  exact ⟨.str (toS s), ⟨t, rfl⟩, fun ρ n H => .str ⟨Nat.le_of_ble_eq_true o1, fun c hc => Nat.le_of_ble_eq_true (List.all_eq_true.mp o2 c hc)⟩⟩
theorem const_int {K : PySem.W.Frag} {i : Int} {t : Tok} : ConstR K (.int i) (.int i t) := ⟨.int i, ⟨t, rfl⟩, fun ρ n H => .int i⟩
theorem const_tup {K : PySem.W.Frag} {xs : List PV} {x : Str} {vs : List He.Dv} (h : He.tupB K x vs = true) (r : ∀ ρ n H, RepL K ρ n H xs (vs.map (He.Dv.v K))) : ConstR K (.tup xs) (.ref (He.ga K x)) :=
  ⟨.ref (He.ga K x), rfl, fun ρ n H => .tup (He.tupB_ok h H) (r ρ n H)⟩
end MP

namespace MP
open PySem PySem.Spec PyProof.Rows L2
/-! ### the law's own def: nothing leaves it -/
def CXn : CXT := fun _ _ _ _ _ _ => False
def sp0 (K : PySem.W.Frag) (cA : Nat → Addr) (f : Hq → List PV → Res PV) (np : Nat) : Sp := fun vs H Q _ => vs.length = np ∧ ∃ ρ h args, Sim K cA ρ h H ∧ RepL K ρ h.n H args vs ∧ (f h args).wp (PostV K cA ρ h H Q) (fun _ _ => False)
section
variable {P : Program} {w : World} {K : PySem.W.Frag} {mg : Str → Option Value} {base : Heap} {T : Tb} {cA : Nat → Addr} {fA : Nat → Addr} {fD : Nat → FuncData} {Pg : Prog} {wf k : Nat}
theorem LF.of0 (G : GF T K mg cA fA fD) (ok : AllOk P w K mg base T cA fA fD Pg wf k) {N : List Str} {qual : Str} {scope : Scope} {f : Addr} {cdv : Value} {A : Around} {outer : List PySem.Env} {s : Shared} {H : Hp} {E : XK} (hr : Room k (A.deeper (envOfC qual scope s.heap.objs.size f cdv))) (nd : N.Nodup) :
    LF T (cxOf CXn P w K mg base N qual scope f cdv A outer s H E).nox cA NoX (evF Pg wf k) where
  cm := rfl
  nd := nd
  un := by have := hr.un; show (A.deeper _).units + 65 < cLine; omega
  tk := takesNo
  fn := fun i hi => ⟨fA i, fD i, k, ok i hi, hr, (G.fn i hi).1, (G.fn i hi).2.1, (G.fn i hi).2.2⟩
  fr := G.fr
  ex := fun i x e => ⟨(G.ex i x e).1, (G.ex i x e).2.2.1, raises_own (G.ex i x e).2.2.2.1 (G.ex i x e).2.2.2.2, "ValueError", _, _, _, PySem.F.excBase_ValueError, (G.ex i x e).2.1⟩
  cn := G.cn
  ef := G.ef
theorem fn_mk0 {x qual : Str} {params : Arguments} {body : List Stmt} {scope : Scope} {f : Addr} {fd : FuncData} (F : FunD K x qual params body scope [] [] f fd) {N ps : List Str} (S : FnScope N ps scope) {i : Nat} {d : Fn} (hd : Pg.fns[i]? = some d) (hnp : d.np = ps.length) (hnl : d.nl = N.length)
    (G : GF T K mg cA fA fD) (ok : AllOk P w K mg base T cA fA fD Pg wf k)
    (hb : ∀ (X : Cx), (∃ cdv A outer s H E, X = (cxOf CXn P w K mg base N qual scope f cdv A outer s H E).nox) → LF T X cA NoX (evF Pg wf k) → PassesOwn (model X.prog X.w) X.A X.env X.xe → DSs Pg (evF Pg wf k) wf X cA NoX body d.body) :
    FnOk P w K mg base CXn (k + 1) f fd ps (sp0 K cA (fun h vs => evF Pg wf (k + 1) i vs h) ps.length) := by
  refine F.ok S (fun vs H Q E h => h.1) fun cdv A outer s H vs Q E hr hsp => ⟨_, PSs.nox (hb _ ⟨cdv, A, outer, s, H, E, rfl⟩ (LF.of0 G ok hr S.nd) .never), ?_⟩
  obtain ⟨hl, ρ, hq, as, sim, rl, hw⟩ := hsp
  have hla : as.length = d.np := by rw [rl.length, hl, hnp]
  have e : evF Pg wf (k + 1) i as hq = (xSs Pg (evF Pg wf k) wf d.body (as.map some ++ List.replicate (d.nl - d.np) none) hq).bind rtOf := by
    show (match Pg.fns[i]? with
      | some d => if as.length = d.np then (xSs Pg (evF Pg wf k) wf d.body (as.map some ++ List.replicate (d.nl - d.np) none) hq).bind rtOf else .fail
      | none => .fail) = _
    rw [hd]
    exact if_pos hla
  have hw : (evF Pg wf (k + 1) i as hq).wp _ _ := hw
  rw [e, Res.wp_bind] at hw
  refine ⟨ρ, hq, _, sim, by rw [show L2.start N vs = vs.map some ++ List.replicate (d.nl - d.np) none by unfold L2.start; rw [hnl, hnp, hl]]; exact start_sim rl _, Res.wp_mono hw (fun p h1 hv => ?_) fun c h1 hc => hc.elim⟩
  intro ρ1 H1 σ1 le1 sim1 se1
  obtain ⟨fl, env1⟩ := p
  cases fl with
  | next => exact hv ρ1 H1 _ le1 sim1 .non
  | cont => exact hv.elim
  | ret v => exact fun u r => hv ρ1 H1 u le1 sim1 r
end
theorem h0_get (ns : List Int) (r : Nat) : (h0 ns).get r = if r = 0 then some (.frz (intsPV ns)) else none := by
  unfold Hq.get h0
  cases r with
  | zero => rfl
  | succ r =>
    rw [if_neg (show ¬ r + 1 < 1 by omega), if_neg (by omega)]
theorem law_sp {K : PySem.W.Frag} {cA : Nat → Addr} {f : Hq → List PV → Res PV} {H : Hp} {a : Addr} {ns : List Int} (ho : Only H) (hs : SqL K H a (ns.map V.int)) (hw : (f (h0 ns) [.ref 0]).wp (fun v _ => v = .bl true) (fun _ _ => False)) :
    sp0 K cA f 1 [.ref a] H (fun v _ => v = .bl true) fun _ _ _ => False := by
  refine ⟨rfl, fun _ => a, h0 ns, [.ref 0], ⟨fun r o e => ?_, fun r s o o' e1 e2 m1 m2 hne => ?_⟩, .cons (.ref (Nat.lt_succ_self 0) rfl) .nil, Res.wp_mono hw (fun v h e ρ' H' u le sim r => ?_) fun _ _ p => p⟩
  · rw [h0_get] at e
    split at e
    · cases e
      refine ⟨ns.map V.int, ?_, RepL.ints ns⟩
      rcases hs with (hs | hs) | hs
      · rcases ho a with z | ⟨o, xs, z⟩
        · rw [hs] at z; cases z
        · rw [hs] at z; cases z
      · exact .inl hs
      · exact .inr hs
    · cases e
  · rw [h0_get] at e1
    split at e1
    · cases e1; cases m1
    · cases e1
  · subst e
    exact r.bl_inv
/-! ### facts of the head, by names -/
def faOf (T : Tb) (faC : List He.Fa) : List He.Fa := (T.fns.map fun p => .glo p.1) ++ (T.excs.map .glo ++ (T.excs.map .exc ++ (T.frees.map .free ++ faC)))
section
variable {T : Tb} {faC : List He.Fa} {defs : List He.DefD} {ts : List TuF} {K : PySem.W.Frag}
theorem SaysM.all (c : SaysM (faOf T faC) defs ts T.excs K) {f : He.Fa} (h : f ∈ faOf T faC) : f.ok K = true := by
  obtain ⟨i, hi⟩ := List.getElem?_of_mem h
  exact c.d.fact i hi
theorem mem_getD {α : Type} {l : List α} {i : Nat} {d : α} (h : i < l.length) : l.getD i d ∈ l := by
  rw [List.getD_eq_getElem?_getD, List.getElem?_eq_getElem h]
  exact List.getElem_mem h
theorem gf_of {mg : Str → Option Value} {h : Heap} {fD : Nat → FuncData} (KX : K.In h) (GX : h.Ns mainGlobals mg) (c : SaysM (faOf T faC) defs ts T.excs K)
    (hkp : ∀ i, i < T.fns.length → PySem.W.keepIn K (.ref (He.ga K (T.fns.getD i ("", [])).1)) = true ∧ Binds K (fD i) (T.fns.getD i ("", [])).2 [])
    (hcn : ∀ (i : Nat), i < T.cons.length → ∃ u, mg (T.cons.getD i ("", .non)).1 = some u ∧ ConstR K (T.cons.getD i ("", .non)).2 u) :
    GF T K mg (fun i => He.ga K (T.excs.getD i "")) (fun i => He.ga K (T.fns.getD i ("", [])).1) fD where
  fn := fun i hi => ⟨He.glo_ok KX GX (c.all (List.mem_append_left _ (List.mem_map.mpr ⟨_, mem_getD hi, rfl⟩))), (hkp i hi).1, (hkp i hi).2⟩
  fr := fun x hx => He.free_ok KX GX (c.all (List.mem_append_right _ (List.mem_append_right _ (List.mem_append_right _ (List.mem_append_left _ (List.mem_map.mpr ⟨x, hx, rfl⟩))))))
  ex := fun i x e => by
    have hx : x ∈ T.excs := List.mem_of_getElem? e
    have ed : T.excs.getD i "" = x := by rw [List.getD_eq_getElem?_getD, e]; rfl
    rw [ed]
    have e2 := He.exc_ok (c.all (List.mem_append_right _ (List.mem_append_right _ (List.mem_append_left _ (List.mem_map.mpr ⟨x, hx, rfl⟩)))))
    exact ⟨He.glo_ok KX GX (c.all (List.mem_append_right _ (List.mem_append_left _ (List.mem_map.mpr ⟨x, hx, rfl⟩)))), e2.1, e2.2.1, e2.2.2.1, e2.2.2.2⟩
  cn := hcn
  ef := c.cl
/-- the function objects -/
theorem defs_of (c : SaysM (faOf T faC) defs ts T.excs K) {n : Nat} (hn : defs.length = n) (h0 : 0 < n) (d0 : He.DefD) : ∃ fD : Nat → FuncData, ∀ i, i < n → FunD K (defs.getD i d0).name (defs.getD i d0).qual (defs.getD i d0).params (defs.getD i d0).body (defs.getD i d0).scope ((defs.getD i d0).dvs K) ((defs.getD i d0).kws K) (He.fAd K (defs.getD i d0).at_) (fD i) := by
  have one : ∀ i, i < n → ∃ fd, FunD K (defs.getD i d0).name (defs.getD i d0).qual (defs.getD i d0).params (defs.getD i d0).body (defs.getD i d0).scope ((defs.getD i d0).dvs K) ((defs.getD i d0).kws K) (He.fAd K (defs.getD i d0).at_) fd := fun i hi => c.d.def_ i (by rw [List.getD_eq_getElem?_getD, List.getElem?_eq_getElem (by rw [hn]; exact hi)]; rfl)
  have all : ∀ i, ∃ fd, i < n → FunD K (defs.getD i d0).name (defs.getD i d0).qual (defs.getD i d0).params (defs.getD i d0).body (defs.getD i d0).scope ((defs.getD i d0).dvs K) ((defs.getD i d0).kws K) (He.fAd K (defs.getD i d0).at_) fd := fun i => by
    by_cases hi : i < n
    · obtain ⟨fd, F⟩ := one i hi
      exact ⟨fd, fun _ => F⟩
    · obtain ⟨fd, _⟩ := one 0 h0
      exact ⟨fd, fun h => absurd h hi⟩
  exact ⟨fun i => Classical.choose (all i), fun i hi => Classical.choose_spec (all i) hi⟩
end
end MP

namespace HD
open MP
def consts : List PV := ([(.str [97, 98, 99]), (.str [112, 113]), (.tup [(.str [108, 101, 102, 116]), (.str [114, 105, 103, 104, 116]), (.str [110, 111, 110, 101])])] : List PV)
def S_is_choice : MP.Fn := ⟨1, 4, [.asg (.name 1) (.bi .len [.comp (.var 3) (.name 3) (.src (.var 0)) [.cmp .isin (.var 3) (.gc 0)] [3]]), .asg (.name 2) (.bin .sub (.bi .len [.var 0]) (.var 1)), .ret (.and [.cmp .le (.int 1) (.var 1), .cmp .le (.var 2) (.int 2), .cmp .le (.bin .add (.var 1) (.var 2)) (.int 3), .cmp .eq (.var 0) (.bin .add (.slice (.gc 0) .non (.var 1)) (.slice (.gc 1) .non (.var 2)))])]⟩
def S_is_level : MP.Fn := ⟨1, 4, [.ife (.or [.nt (.isinst (.var 0) .tuple), .cmp .ne (.bi .len [.var 0]) (.int 2), .nt (.bi .all [.comp (.isinst (.var 1) .str) (.name 1) (.src (.var 0)) [] [1]])]) [.ret (.bl false)] [], .ife (.or [.cmp .notin (.idx (.var 0) (.int 0)) (.gc 2), .cmp .eq (.idx (.var 0) (.int 1)) (.str []), .nt (.bi .all [.comp (.cmp .isin (.var 2) (.bin .add (.gc 0) (.gc 1))) (.name 2) (.src (.idx (.var 0) (.int 1))) [] [2]])]) [.ret (.bl false)] [], .ret (.bi .all [.comp (.cmp .lt (.var 1) (.var 3)) (.tup [.name 1, .name 3]) (.zip (.idx (.var 0) (.int 1)) (.slice (.idx (.var 0) (.int 1)) (.int 1) .non)) [] [1, 3]])]⟩
def S_all_signs : MP.Fn := ⟨1, 3, [.ret (.mt .join (.str []) [.bi .sorted [.mt .join (.str []) [.comp (.var 2) (.tup [.name 1, .name 2]) (.src (.var 0)) [] [1, 2]]]])]⟩
def S_is_table : MP.Fn := ⟨1, 2, [.ife (.or [.nt (.isinst (.var 0) .tuple), .nt (.chain .le .le (.int 1) (.bi .len [.var 0]) (.int 3)), .nt (.bi .all [.comp (.call 1 [.var 1]) (.name 1) (.src (.var 0)) [] [1]])]) [.ret (.bl false)] [], .ret (.call 0 [.call 2 [.var 0]])]⟩
def S_check_table : MP.Fn := ⟨1, 1, [.ife (.nt (.call 3 [.var 0])) [.raise 1] []]⟩
def S_format_table : MP.Fn := ⟨1, 3, [.expr (.call 4 [.var 0]), .ret (.mt .join (.str [32, 124, 32]) [.comp (.bin .add (.bin .add (.var 1) (.str [32])) (.var 2)) (.tup [.name 1, .name 2]) (.src (.var 0)) [] [1, 2]])]⟩
def S_check_text : MP.Fn := ⟨1, 1, [.ife (.nt (.isinst (.var 0) .str)) [.raise 5] []]⟩
def S_parse_table : MP.Fn := ⟨1, 3, [.expr (.call 6 [.var 0]), .asg (.name 1) (.bi .tuple [.comp (.bi .tuple [.mt .split (.var 2) [.str [32]]]) (.name 2) (.src (.mt .split (.var 0) [.str [32, 124, 32]])) [] [2]]), .ife (.nt (.call 3 [.var 1])) [.raise 5] [], .ret (.var 1)]⟩
def S__law_start : MP.Fn := ⟨1, 1, [.ret (.lst [.ite (.cmp .ne (.var 0) (.lst [])) (.bi .list [.var 0]) (.lst [.int 0]), .int 0])]⟩
def S__law_draw : MP.Fn := ⟨2, 6, [.asg (.name 2) (.idx (.var 0) (.int 0)), .seti (.var 0) (.int 1) (.bin .add (.idx (.var 0) (.int 1)) (.int 1)), .asg (.name 3) (.bin .mod (.idx (.var 0) (.int 1)) (.bi .len [.var 2])), .asg (.name 4) (.idx (.var 2) (.var 3)), .ife (.cmp .ge (.var 4) (.int 1000000000000000000)) [.seti (.var 2) (.var 3) (.bin .fdiv (.var 4) (.var 1)), .ret (.bin .mod (.var 4) (.var 1))] [], .asg (.name 5) (.bin .mod (.bin .add (.var 4) (.bin .mul (.int 104729) (.idx (.var 0) (.int 1)))) (.int 4294967291)), .asg (.name 5) (.bin .mod (.bin .pow (.var 5) (.int 5)) (.int 4294967279)), .ret (.bin .mod (.bin .fdiv (.bin .mod (.bin .add (.bin .mul (.bin .fdiv (.var 5) (.int 64)) (.int 69621)) (.var 5)) (.int 4294967231)) (.int 8)) (.var 1))]⟩
def S__law_pick : MP.Fn := ⟨2, 2, [.ret (.idx (.var 1) (.call 9 [.var 0, .bi .len [.var 1]]))]⟩
def S__law_error : MP.Fn := ⟨1, 2, [.asg (.name 1) (.lst [.isinst (.var 0) (.cls 1 7), .isinst (.var 0) (.cls 2 7), .isinst (.var 0) (.cls 3 7)]), .asg (.name 1) (.bin .add (.var 1) (.lst [.isinst (.var 0) (.cls 4 7), .isinst (.var 0) (.cls 5 7), .isinst (.var 0) (.cls 6 7)])), .ife (.or [.cmp .ne (.mt .countL (.var 1) [.bl true]) (.int 1), .nt (.isinst (.var 0) (.cls 0 7)), .nt (.isinst (.var 0) (.cls 99 7))]) [.ret (.str [111, 100, 100])] [], .ret (.idx (.lst [.str [116, 97, 98, 108, 101], .str [109, 101, 97, 110, 105, 110, 103], .str [114, 111, 119], .str [110, 117, 109, 98, 101, 114], .str [116, 101, 120, 116], .str [110, 111, 110, 101]]) (.mt .indexL (.var 1) [.bl true]))]⟩
def S__law_many : MP.Fn := ⟨1, 1, [.ret (.call 10 [.var 0, .lst [.tup [.int 1, .int 0], .tup [.int 1, .int 1], .tup [.int 1, .int 2], .tup [.int 2, .int 0], .tup [.int 2, .int 0], .tup [.int 2, .int 1], .tup [.int 2, .int 1], .tup [.int 3, .int 0]]])]⟩
def S__law_signs : MP.Fn := ⟨1, 1, [.ret (.bin .add (.slice (.str [97, 98, 99]) .non (.idx (.var 0) (.int 0))) (.slice (.str [112, 113]) .non (.idx (.var 0) (.int 1))))]⟩
def S__law_table : MP.Fn := ⟨2, 8, [.asg (.name 2) (.comp (.call 9 [.var 0, .int 3]) (.name 6) (.src (.call 13 [.var 1])) [] [6]), .asg (.name 3) (.lst []), .for (.name 4) (.range [.int 3]) [.asg (.name 5) (.mt .join (.str []) [.comp (.idx (.call 13 [.var 1]) (.var 7)) (.name 7) (.range [.bi .len [.var 2]]) [.cmp .eq (.idx (.var 2) (.var 7)) (.var 4)] [7]]), .ife (.cmp .ne (.var 5) (.str [])) [.expr (.mt .append (.var 3) [.tup [.call 10 [.var 0, .lst [.str [108, 101, 102, 116], .str [108, 101, 102, 116], .str [114, 105, 103, 104, 116], .str [114, 105, 103, 104, 116], .str [110, 111, 110, 101]]], .var 5]])] []], .ret (.bi .tuple [.var 3])]⟩
def S__law_parsed : MP.Fn := ⟨1, 4, [.asg (.name 1) .non, .asg (.name 2) .non, .try_ (some 1) (.call 7 [.var 0]) 3 2 7, .ret (.ite (.isN false (.var 2)) (.var 1) (.call 11 [.var 2]))]⟩
def S__law_words : MP.Fn := ⟨1, 3, [.ret (.mt .join (.str [32, 124, 32]) [.comp (.bin .add (.bin .add (.var 1) (.str [32])) (.var 2)) (.tup [.name 1, .name 2]) (.src (.var 0)) [] [1, 2]])]⟩
def S__law_rejected : MP.Fn := ⟨0, 2, [.asg (.name 0) (.lst [.non, .int 5, .str [], .str [32], .str [108, 101, 102, 116], .str [108, 101, 102, 116, 32], .str [32, 108, 101, 102, 116, 32, 97], .str [108, 101, 102, 116, 32, 97, 32], .str [108, 101, 102, 116, 32, 32, 97], .str [76, 101, 102, 116, 32, 97], .str [108, 101, 102, 116, 32, 65], .str [108, 101, 102, 116, 32, 98], .str [108, 101, 102, 116, 32, 112], .str [108, 101, 102, 116, 32, 97, 99], .str [108, 101, 102, 116, 32, 98, 97], .str [108, 101, 102, 116, 32, 97, 97], .str [108, 101, 102, 116, 32, 97, 124, 114, 105, 103, 104, 116, 32, 98]]), .asg (.name 0) (.bin .add (.var 0) (.lst [.str [108, 101, 102, 116, 32, 97, 32, 124, 114, 105, 103, 104, 116, 32, 98], .str [108, 101, 102, 116, 32, 97, 124, 32, 114, 105, 103, 104, 116, 32, 98], .str [108, 101, 102, 116, 32, 97, 32, 124, 32], .str [32, 124, 32, 108, 101, 102, 116, 32, 97], .str [108, 101, 102, 116, 32, 97, 32, 124, 32, 114, 105, 103, 104, 116, 32, 97], .str [108, 101, 102, 116, 32, 97, 32, 124, 32, 114, 105, 103, 104, 116, 32, 98, 32, 124, 32, 110, 111, 110, 101, 32, 99, 32, 124, 32, 108, 101, 102, 116, 32, 112], .str [108, 101, 102, 116, 32, 97, 98, 99, 112], .str [108, 101, 102, 116, 32, 97, 112, 113, 114]])), .asg (.name 0) (.bin .add (.var 0) (.lst [.str [108, 101, 102, 116, 32, 97, 32, 124, 32, 124, 32, 114, 105, 103, 104, 116, 32, 98], .str [108, 101, 102, 116, 32, 97, 10], .str [108, 101, 102, 116, 9, 97], .lst [.str [108, 101, 102, 116, 32, 97]], .str [108, 101, 102, 116, 32, 97, 32, 124, 124, 32, 114, 105, 103, 104, 116, 32, 98], .str [108, 101, 102, 116, 32, 97, 32, 32, 124, 32, 114, 105, 103, 104, 116, 32, 98], .str [109, 105, 100, 100, 108, 101, 32, 97], .str [108, 101, 102, 116, 32, 97, 32, 114, 105, 103, 104, 116, 32, 98], .str [108, 101, 102, 116, 32, 97, 32, 124, 32, 114, 105, 103, 104, 116]])), .asg (.name 0) (.bin .add (.var 0) (.lst [.bin .add (.str [108, 101, 102, 116, 32]) (.bin .mul (.str [97]) (.int 4000)), .bin .add (.bin .mul (.str [108, 101, 102, 116, 32, 97, 32, 124, 32]) (.int 100)) (.str [108, 101, 102, 116, 32, 98]), .str [108, 101, 102, 116, 32, 97, 32, 124, 32, 114, 105, 103, 104, 116, 32, 98, 32, 124, 32, 110, 111, 110, 101, 32, 99, 32, 124, 32, 108, 101, 102, 116, 32, 100], .str [108, 101, 102, 116, 32, 97, 98, 99, 32, 124, 32, 114, 105, 103, 104, 116, 32, 112]])), .ret (.cmp .eq (.comp (.call 15 [.var 1]) (.name 1) (.src (.var 0)) [] [1]) (.bin .mul (.lst [.str [116, 101, 120, 116]]) (.int 38)))]⟩
def S_law : MP.Fn := ⟨1, 12, [.asg (.name 1) (.call 8 [.var 0]), .asg (.name 2) (.call 14 [.var 1, .call 12 [.var 1]]), .asg (.name 3) (.call 5 [.var 2]), .ife (.or [.cmp .ne (.var 3) (.call 16 [.var 2]), .cmp .ne (.call 15 [.var 3]) (.var 2)]) [.ret (.bl false)] [], .asg (.name 4) (.lst [.str [108, 101, 102, 116], .str [114, 105, 103, 104, 116], .str [110, 111, 110, 101], .str [97], .str [98], .str [99], .str [112], .str [113], .str [124], .str [97, 98], .str [120], .str [], .str [32]]), .asg (.name 5) (.mt .split (.var 3) [.str [32]]), .for (.name 6) (.range [.int 16]) [.par [7, 8] [.call 9 [.var 1, .bin .add (.bi .len [.var 5]) (.int 1)], .call 10 [.var 1, .var 4]], .asg (.name 9) (.lst [.bin .add (.bin .add (.slice (.var 5) .non (.var 7)) (.lst [.var 8])) (.slice (.var 5) (.bin .add (.var 7) (.int 1)) .non), .bin .add (.bin .add (.slice (.var 5) .non (.var 7)) (.lst [.var 8])) (.slice (.var 5) (.var 7) .non), .bin .add (.slice (.var 5) .non (.var 7)) (.slice (.var 5) (.bin .add (.var 7) (.int 1)) .non)]), .asg (.name 10) (.mt .join (.str [32]) [.call 10 [.var 1, .var 9]]), .asg (.name 11) (.call 15 [.var 10]), .ife (.and [.cmp .ne (.var 11) (.str [116, 101, 120, 116]), .or [.cmp .ne (.call 16 [.var 11]) (.var 10), .isB true (.call 3 [.var 11]) true]]) [.ret (.bl false)] []], .ret (.call 17 [])]⟩
def Pg : Prog := ⟨([S_is_choice, S_is_level, S_all_signs, S_is_table, S_check_table, S_format_table, S_check_text, S_parse_table, S__law_start, S__law_draw, S__law_pick, S__law_error, S__law_many, S__law_signs, S__law_table, S__law_parsed, S__law_words, S__law_rejected, S_law] : List MP.Fn), consts, isaE⟩
abbrev WF : Nat := 100
def cs : List MP.Z.VV := ([(.str [97, 98, 99]), (.str [112, 113]), (.tup [(.str [108, 101, 102, 116]), (.str [114, 105, 103, 104, 116]), (.str [110, 111, 110, 101])])] : List MP.Z.VV)
theorem consts_ok : Z.ConstsOk Pg cs := fun i v e => match i, e with
  | 0, e => by cases e; exact ⟨_, rfl, fun d h A => (.str _)⟩
  | 1, e => by cases e; exact ⟨_, rfl, fun d h A => (.str _)⟩
  | 2, e => by cases e; exact ⟨_, rfl, fun d h A => (.tup (.cons (.str _) (.cons (.str _) (.cons (.str _) .nil))))⟩
  | n + 3, e => by cases e
def deeps : List (Nat × Z.DSpec) := []
theorem deeps_ok : ∀ i p, deeps.lookup i = some p → Pg.fns[i]? = some ⟨p.np, p.nl, p.all⟩ := by
  intro i p e
  unfold deeps at e
  cases e
abbrev ev0law (s : Z.Drw) : Z.RF := Z.rt0 (Z.x0s cs (Z.f0 Pg cs (Z.extD cs WF 9 deeps) WF 200) WF (S_law.body.drop 1) (Z.lawEnv 12) s)
def LawTrue : Prop := ∀ s : Z.Drw, s.1 ≠ [] → ∃ s', ev0law s = .ret (.bl true) s'
theorem law_wp (H : LawTrue) (ns : List Int) : (evF Pg WF 201 18 [.ref 0] (h0 ns)).wp (fun v _ => v = .bl true) (fun _ _ => False) :=
  Z.law_close (k := 199) (li := 18) (si := 8) (di := 9) (nl := 12) (rest := S_law.body.drop 1) (dl := deeps) deeps_ok rfl (by decide) rfl rfl consts_ok H ns
def C (k : Nat) : Z.Call0 := Z.f0 Pg cs (Z.extD cs WF 9 deeps) WF k
theorem ev0law_eq (s : Z.Drw) : ev0law s = Z.rt0 (Z.x0s cs (C 200) WF (S_law.body.drop 1) (Z.lawEnv 12) s) := rfl
theorem u_is_choice (k : Nat) (a0 : Z.VV) (s : Z.Drw) : C (k + 1) 0 [a0] s = Z.rt0 (Z.x0s cs (C k) WF S_is_choice.body [some (false, a0), none, none, none] s) := rfl
theorem u_is_level (k : Nat) (a0 : Z.VV) (s : Z.Drw) : C (k + 1) 1 [a0] s = Z.rt0 (Z.x0s cs (C k) WF S_is_level.body [some (false, a0), none, none, none] s) := rfl
theorem u_all_signs (k : Nat) (a0 : Z.VV) (s : Z.Drw) : C (k + 1) 2 [a0] s = Z.rt0 (Z.x0s cs (C k) WF S_all_signs.body [some (false, a0), none, none] s) := rfl
theorem u_is_table (k : Nat) (a0 : Z.VV) (s : Z.Drw) : C (k + 1) 3 [a0] s = Z.rt0 (Z.x0s cs (C k) WF S_is_table.body [some (false, a0), none] s) := rfl
theorem u_check_table (k : Nat) (a0 : Z.VV) (s : Z.Drw) : C (k + 1) 4 [a0] s = Z.rt0 (Z.x0s cs (C k) WF S_check_table.body [some (false, a0)] s) := rfl
theorem u_format_table (k : Nat) (a0 : Z.VV) (s : Z.Drw) : C (k + 1) 5 [a0] s = Z.rt0 (Z.x0s cs (C k) WF S_format_table.body [some (false, a0), none, none] s) := rfl
theorem u_check_text (k : Nat) (a0 : Z.VV) (s : Z.Drw) : C (k + 1) 6 [a0] s = Z.rt0 (Z.x0s cs (C k) WF S_check_text.body [some (false, a0)] s) := rfl
theorem u_parse_table (k : Nat) (a0 : Z.VV) (s : Z.Drw) : C (k + 1) 7 [a0] s = Z.rt0 (Z.x0s cs (C k) WF S_parse_table.body [some (false, a0), none, none] s) := rfl
theorem u__law_pick (k : Nat) (a0 : Z.VV) (a1 : Z.VV) (s : Z.Drw) : C (k + 1) 10 [a0, a1] s = Z.rt0 (Z.x0s cs (C k) WF S__law_pick.body [some (false, a0), some (false, a1)] s) := rfl
theorem u__law_error (k : Nat) (a0 : Z.VV) (s : Z.Drw) : C (k + 1) 11 [a0] s = Z.rt0 (Z.x0s cs (C k) WF S__law_error.body [some (false, a0), none] s) := rfl
theorem u__law_many (k : Nat) (a0 : Z.VV) (s : Z.Drw) : C (k + 1) 12 [a0] s = Z.rt0 (Z.x0s cs (C k) WF S__law_many.body [some (false, a0)] s) := rfl
theorem u__law_signs (k : Nat) (a0 : Z.VV) (s : Z.Drw) : C (k + 1) 13 [a0] s = Z.rt0 (Z.x0s cs (C k) WF S__law_signs.body [some (false, a0)] s) := rfl
theorem u__law_table (k : Nat) (a0 : Z.VV) (a1 : Z.VV) (s : Z.Drw) : C (k + 1) 14 [a0, a1] s = Z.rt0 (Z.x0s cs (C k) WF S__law_table.body [some (false, a0), some (false, a1), none, none, none, none, none, none] s) := rfl
theorem u__law_parsed (k : Nat) (a0 : Z.VV) (s : Z.Drw) : C (k + 1) 15 [a0] s = Z.rt0 (Z.x0s cs (C k) WF S__law_parsed.body [some (false, a0), none, none, none] s) := rfl
theorem u__law_words (k : Nat) (a0 : Z.VV) (s : Z.Drw) : C (k + 1) 16 [a0] s = Z.rt0 (Z.x0s cs (C k) WF S__law_words.body [some (false, a0), none, none] s) := rfl
theorem u__law_rejected (k : Nat) (s : Z.Drw) : C (k + 1) 17 [] s = Z.rt0 (Z.x0s cs (C k) WF S__law_rejected.body [none, none] s) := rfl
theorem u_law (k : Nat) (a0 : Z.VV) (s : Z.Drw) : C (k + 1) 18 [a0] s = Z.rt0 (Z.x0s cs (C k) WF S_law.body [some (false, a0), none, none, none, none, none, none, none, none, none, none, none] s) := rfl
theorem r_draw (k : Nat) (l : Int) (s : Z.Drw) (h0 : 0 < l) (h1 : l < 1073741824) : C (k + 1) 9 [.drw, .int l] s = .ret (.int (Z.dVal s l)) (Z.dNext s l) := by
  show (if (decide (0 < l) && decide (l < 1073741824)) = true then _ else _) = _
  rw [if_pos (by rw [decide_eq_true h0, decide_eq_true h1]; rfl)]
theorem c_INFIX : cs[0]? = some (.str [97, 98, 99]) := rfl
theorem c_AHEAD : cs[1]? = some (.str [112, 113]) := rfl
theorem c_WORDS : cs[2]? = some (.tup [(.str [108, 101, 102, 116]), (.str [114, 105, 103, 104, 116]), (.str [110, 111, 110, 101])]) := rfl
end HD

namespace HD
open PySem PySem.Spec PyProof.Rows L2 MP
def top (i : Nat) : Stmt := PySem.Challenge.pw_bindreads_k17_whole_table_texts.main.body.getD i (.Pass ⟨0, 0, 0, 0⟩)
def dd (x : Str) (i : Nat) : He.DefD := ⟨(x, none), x, x, defArgs (top i), defBody (top i), defScope (top i), [], []⟩
def tFns : List (Str × List Str) := ([("is_choice", ["signs"]), ("is_level", ["value"]), ("all_signs", ["table"]), ("is_table", ["value"]), ("check_table", ["value"]), ("format_table", ["table"]), ("check_text", ["text"]), ("parse_table", ["text"]), ("_law_start", ["_law_script"]), ("_law_draw", ["_law_draws", "_law_limit"]), ("_law_pick", ["_law_draws", "_law_choices"]), ("_law_error", ["_law_caught"]), ("_law_many", ["_law_draws"]), ("_law_signs", ["_law_many_here"]), ("_law_table", ["_law_draws", "_law_many_here"]), ("_law_parsed", ["_law_text"]), ("_law_words", ["_law_table_here"]), ("_law_rejected", [])] : List (Str × List Str))
def tb : Tb := ⟨tFns, (["len", "isinstance", "all", "sorted", "zip", "range", "tuple", "list", "str", "ValueError"] : List Str), (["BindError", "BadTable", "BadMeaning", "BadRow", "BadNumber", "BadText", "NotFound"] : List Str), ([("INFIX", (.str [97, 98, 99])), ("AHEAD", (.str [112, 113])), ("WORDS", (.tup [(.str [108, 101, 102, 116]), (.str [114, 105, 103, 104, 116]), (.str [110, 111, 110, 101])]))] : List (Str × PV))⟩
section
variable {P : Program} {w : World} {K : PySem.W.Frag} {mg : Str → Option Value} {base : Heap} {cA : Nat → Addr} {fA : Nat → Addr} {fD : Nat → FuncData} {k : Nat}
theorem n_is_choice {f : Addr} {fd : FuncData} (F : FunD K "is_choice" "is_choice" (defArgs (top 12)) (defBody (top 12)) (defScope (top 12)) [] [] f fd) : Binds K fd ["signs"] [] := F.bindsN (ps := ["signs"]) fun _ _ _ _ _ _ us hl => match us, hl with | [_], _ => rfl
theorem o_is_choice (G : GF tb K mg cA fA fD) (ok : AllOk P w K mg base tb cA fA fD Pg WF k) {f : Addr} {fd : FuncData} (F : FunD K "is_choice" "is_choice" (defArgs (top 12)) (defBody (top 12)) (defScope (top 12)) [] [] f fd) : FnOk P w K mg base (L2.CX P w) (k + 1) f fd ["signs"] (spN K cA Pg WF (k + 1) 0 1) :=
  fn_mk F (N := ["signs", "infix", "ahead", "sign"]) (ps := ["signs"]) ⟨rfl, rfl, rfl, by decide +kernel, rfl, by decide +kernel, by decide +kernel⟩ (i := 0) (d := S_is_choice) rfl rfl rfl G ok fun X E hX l hp => by
    obtain ⟨cdv, A, outer, s, H, rfl⟩ := hX
    exact (ss_cons (s_set l (d_len l (a_cons (d_lc (own := [("sign", 3)]) l (i_src d_var) (fun s H C cl fp l => (g_name l)) (fun s H C cl fp l => (ts_one (t_isin l d_var (d_gc l)))) (fun s H C cl fp l => d_var)) a_nil))) (ss_cons (s_set l (d_sub (d_len l (a_cons d_var a_nil)) d_var)) (ss_cons (s_ret (d_and (d_le l d_int d_var) (d_and (d_le l d_var d_int) (d_and (d_le l (d_add d_var d_var) d_int) (d_and1 (d_eq l d_var (d_add (d_slice (d_gc l) o_none (o_some d_var)) (d_slice (d_gc l) o_none (o_some d_var))))))))) ss_nil)))
theorem n_is_level {f : Addr} {fd : FuncData} (F : FunD K "is_level" "is_level" (defArgs (top 13)) (defBody (top 13)) (defScope (top 13)) [] [] f fd) : Binds K fd ["value"] [] := F.bindsN (ps := ["value"]) fun _ _ _ _ _ _ us hl => match us, hl with | [_], _ => rfl
theorem o_is_level (G : GF tb K mg cA fA fD) (ok : AllOk P w K mg base tb cA fA fD Pg WF k) {f : Addr} {fd : FuncData} (F : FunD K "is_level" "is_level" (defArgs (top 13)) (defBody (top 13)) (defScope (top 13)) [] [] f fd) : FnOk P w K mg base (L2.CX P w) (k + 1) f fd ["value"] (spN K cA Pg WF (k + 1) 1 1) :=
  fn_mk F (N := ["value", "one", "sign", "other"]) (ps := ["value"]) ⟨rfl, rfl, rfl, by decide +kernel, rfl, by decide +kernel, by decide +kernel⟩ (i := 1) (d := S_is_level) rfl rfl rfl G ok fun X E hX l hp => by
    obtain ⟨cdv, A, outer, s, H, rfl⟩ := hX
    exact (ss_cons (s_if (t_w (w_or (t_nt (t_val (d_isin_tuple l d_var))) (w_or (t_ne l (d_len l (a_cons d_var a_nil)) d_int) (w_or1 (t_nt (t_val (d_all l (a_cons (d_lc (own := [("one", 1)]) l (i_src d_var) (fun s H C cl fp l => (g_name l)) (fun s H C cl fp l => ts_nil) (fun s H C cl fp l => (d_isin_str l d_var))) a_nil)))))))) (ss_cons (s_ret d_bl) ss_nil) ss_nil) (ss_cons (s_if (t_w (w_or (t_notin l (d_idx l d_var d_int) (d_gc l)) (w_or (t_eq l (d_idx l d_var d_int) d_str) (w_or1 (t_nt (t_val (d_all l (a_cons (d_lc (own := [("sign", 2)]) l (i_src (d_idx l d_var d_int)) (fun s H C cl fp l => (g_name l)) (fun s H C cl fp l => ts_nil) (fun s H C cl fp l => (d_isin l d_var (d_add (d_gc l) (d_gc l))))) a_nil)))))))) (ss_cons (s_ret d_bl) ss_nil) ss_nil) (ss_cons (s_ret (d_all l (a_cons (d_lc (own := [("one", 1), ("other", 3)]) l (i_zip l (d_idx l d_var d_int) (d_slice (d_idx l d_var d_int) (o_some d_int) o_none)) (fun s H C cl fp l => (g_tup l (gs_cons (g_name l) (gs_cons (g_name l) gs_nil)))) (fun s H C cl fp l => ts_nil) (fun s H C cl fp l => (d_lt l d_var d_var))) a_nil))) ss_nil)))
theorem n_all_signs {f : Addr} {fd : FuncData} (F : FunD K "all_signs" "all_signs" (defArgs (top 14)) (defBody (top 14)) (defScope (top 14)) [] [] f fd) : Binds K fd ["table"] [] := F.bindsN (ps := ["table"]) fun _ _ _ _ _ _ us hl => match us, hl with | [_], _ => rfl
theorem o_all_signs (G : GF tb K mg cA fA fD) (ok : AllOk P w K mg base tb cA fA fD Pg WF k) {f : Addr} {fd : FuncData} (F : FunD K "all_signs" "all_signs" (defArgs (top 14)) (defBody (top 14)) (defScope (top 14)) [] [] f fd) : FnOk P w K mg base (L2.CX P w) (k + 1) f fd ["table"] (spN K cA Pg WF (k + 1) 2 1) :=
  fn_mk F (N := ["table", "word", "signs"]) (ps := ["table"]) ⟨rfl, rfl, rfl, by decide +kernel, rfl, by decide +kernel, by decide +kernel⟩ (i := 2) (d := S_all_signs) rfl rfl rfl G ok fun X E hX l hp => by
    obtain ⟨cdv, A, outer, s, H, rfl⟩ := hX
    exact (ss_cons (s_ret (d_m_join d_str (a_cons (d_sorted l (a_cons (d_m_join d_str (a_cons (d_lc (own := [("word", 1), ("signs", 2)]) l (i_src d_var) (fun s H C cl fp l => (g_tup l (gs_cons (g_name l) (gs_cons (g_name l) gs_nil)))) (fun s H C cl fp l => ts_nil) (fun s H C cl fp l => d_var)) a_nil)) a_nil)) a_nil))) ss_nil)
theorem n_is_table {f : Addr} {fd : FuncData} (F : FunD K "is_table" "is_table" (defArgs (top 15)) (defBody (top 15)) (defScope (top 15)) [] [] f fd) : Binds K fd ["value"] [] := F.bindsN (ps := ["value"]) fun _ _ _ _ _ _ us hl => match us, hl with | [_], _ => rfl
theorem o_is_table (G : GF tb K mg cA fA fD) (ok : AllOk P w K mg base tb cA fA fD Pg WF k) {f : Addr} {fd : FuncData} (F : FunD K "is_table" "is_table" (defArgs (top 15)) (defBody (top 15)) (defScope (top 15)) [] [] f fd) : FnOk P w K mg base (L2.CX P w) (k + 1) f fd ["value"] (spN K cA Pg WF (k + 1) 3 1) :=
  fn_mk F (N := ["value", "one"]) (ps := ["value"]) ⟨rfl, rfl, rfl, by decide +kernel, rfl, by decide +kernel, by decide +kernel⟩ (i := 3) (d := S_is_table) rfl rfl rfl G ok fun X E hX l hp => by
    obtain ⟨cdv, A, outer, s, H, rfl⟩ := hX
    exact (ss_cons (s_if (t_w (w_or (t_nt (t_val (d_isin_tuple l d_var))) (w_or (t_nt (t_chain_le_le l d_int (d_len l (a_cons d_var a_nil)) d_int)) (w_or1 (t_nt (t_val (d_all l (a_cons (d_lc (own := [("one", 1)]) l (i_src d_var) (fun s H C cl fp l => (g_name l)) (fun s H C cl fp l => ts_nil) (fun s H C cl fp l => (d_call l (a_cons d_var a_nil)))) a_nil)))))))) (ss_cons (s_ret d_bl) ss_nil) ss_nil) (ss_cons (s_ret (d_call l (a_cons (d_call l (a_cons d_var a_nil)) a_nil))) ss_nil))
theorem n_check_table {f : Addr} {fd : FuncData} (F : FunD K "check_table" "check_table" (defArgs (top 16)) (defBody (top 16)) (defScope (top 16)) [] [] f fd) : Binds K fd ["value"] [] := F.bindsN (ps := ["value"]) fun _ _ _ _ _ _ us hl => match us, hl with | [_], _ => rfl
theorem o_check_table (G : GF tb K mg cA fA fD) (ok : AllOk P w K mg base tb cA fA fD Pg WF k) {f : Addr} {fd : FuncData} (F : FunD K "check_table" "check_table" (defArgs (top 16)) (defBody (top 16)) (defScope (top 16)) [] [] f fd) : FnOk P w K mg base (L2.CX P w) (k + 1) f fd ["value"] (spN K cA Pg WF (k + 1) 4 1) :=
  fn_mk F (N := ["value"]) (ps := ["value"]) ⟨rfl, rfl, rfl, by decide +kernel, rfl, by decide +kernel, by decide +kernel⟩ (i := 4) (d := S_check_table) rfl rfl rfl G ok fun X E hX l hp => by
    obtain ⟨cdv, A, outer, s, H, rfl⟩ := hX
    exact (ss_cons (s_if (t_nt (t_val (d_call l (a_cons d_var a_nil)))) (ss_cons (s_raise l) ss_nil) ss_nil) ss_nil)
theorem n_format_table {f : Addr} {fd : FuncData} (F : FunD K "format_table" "format_table" (defArgs (top 18)) (defBody (top 18)) (defScope (top 18)) [] [] f fd) : Binds K fd ["table"] [] := F.bindsN (ps := ["table"]) fun _ _ _ _ _ _ us hl => match us, hl with | [_], _ => rfl
theorem o_format_table (G : GF tb K mg cA fA fD) (ok : AllOk P w K mg base tb cA fA fD Pg WF k) {f : Addr} {fd : FuncData} (F : FunD K "format_table" "format_table" (defArgs (top 18)) (defBody (top 18)) (defScope (top 18)) [] [] f fd) : FnOk P w K mg base (L2.CX P w) (k + 1) f fd ["table"] (spN K cA Pg WF (k + 1) 5 1) :=
  fn_mk F (N := ["table", "word", "signs"]) (ps := ["table"]) ⟨rfl, rfl, rfl, by decide +kernel, rfl, by decide +kernel, by decide +kernel⟩ (i := 5) (d := S_format_table) rfl rfl rfl G ok fun X E hX l hp => by
    obtain ⟨cdv, A, outer, s, H, rfl⟩ := hX
    exact (ss_cons (s_expr (d_call l (a_cons d_var a_nil))) (ss_cons (s_ret (d_m_join d_str (a_cons (d_lc (own := [("word", 1), ("signs", 2)]) l (i_src d_var) (fun s H C cl fp l => (g_tup l (gs_cons (g_name l) (gs_cons (g_name l) gs_nil)))) (fun s H C cl fp l => ts_nil) (fun s H C cl fp l => (d_add (d_add d_var d_str) d_var))) a_nil))) ss_nil))
theorem n_check_text {f : Addr} {fd : FuncData} (F : FunD K "check_text" "check_text" (defArgs (top 19)) (defBody (top 19)) (defScope (top 19)) [] [] f fd) : Binds K fd ["text"] [] := F.bindsN (ps := ["text"]) fun _ _ _ _ _ _ us hl => match us, hl with | [_], _ => rfl
theorem o_check_text (G : GF tb K mg cA fA fD) (ok : AllOk P w K mg base tb cA fA fD Pg WF k) {f : Addr} {fd : FuncData} (F : FunD K "check_text" "check_text" (defArgs (top 19)) (defBody (top 19)) (defScope (top 19)) [] [] f fd) : FnOk P w K mg base (L2.CX P w) (k + 1) f fd ["text"] (spN K cA Pg WF (k + 1) 6 1) :=
  fn_mk F (N := ["text"]) (ps := ["text"]) ⟨rfl, rfl, rfl, by decide +kernel, rfl, by decide +kernel, by decide +kernel⟩ (i := 6) (d := S_check_text) rfl rfl rfl G ok fun X E hX l hp => by
    obtain ⟨cdv, A, outer, s, H, rfl⟩ := hX
    exact (ss_cons (s_if (t_nt (t_val (d_isin_str l d_var))) (ss_cons (s_raise l) ss_nil) ss_nil) ss_nil)
theorem n_parse_table {f : Addr} {fd : FuncData} (F : FunD K "parse_table" "parse_table" (defArgs (top 20)) (defBody (top 20)) (defScope (top 20)) [] [] f fd) : Binds K fd ["text"] [] := F.bindsN (ps := ["text"]) fun _ _ _ _ _ _ us hl => match us, hl with | [_], _ => rfl
theorem o_parse_table (G : GF tb K mg cA fA fD) (ok : AllOk P w K mg base tb cA fA fD Pg WF k) {f : Addr} {fd : FuncData} (F : FunD K "parse_table" "parse_table" (defArgs (top 20)) (defBody (top 20)) (defScope (top 20)) [] [] f fd) : FnOk P w K mg base (L2.CX P w) (k + 1) f fd ["text"] (spN K cA Pg WF (k + 1) 7 1) :=
  fn_mk F (N := ["text", "found", "part"]) (ps := ["text"]) ⟨rfl, rfl, rfl, by decide +kernel, rfl, by decide +kernel, by decide +kernel⟩ (i := 7) (d := S_parse_table) rfl rfl rfl G ok fun X E hX l hp => by
    obtain ⟨cdv, A, outer, s, H, rfl⟩ := hX
    exact (ss_cons (s_expr (d_call l (a_cons d_var a_nil))) (ss_cons (s_set l (d_tuple l (a_cons (d_lc (own := [("part", 2)]) l (i_src (d_m_split d_var (a_cons d_str a_nil))) (fun s H C cl fp l => (g_name l)) (fun s H C cl fp l => ts_nil) (fun s H C cl fp l => (d_tuple l (a_cons (d_m_split d_var (a_cons d_str a_nil)) a_nil)))) a_nil))) (ss_cons (s_if (t_nt (t_val (d_call l (a_cons d_var a_nil)))) (ss_cons (s_raise l) ss_nil) ss_nil) (ss_cons (s_ret d_var) ss_nil))))
theorem n__law_start {f : Addr} {fd : FuncData} (F : FunD K "_law_start" "_law_start" (defArgs (top 22)) (defBody (top 22)) (defScope (top 22)) [] [] f fd) : Binds K fd ["_law_script"] [] := F.bindsN (ps := ["_law_script"]) fun _ _ _ _ _ _ us hl => match us, hl with | [_], _ => rfl
theorem o__law_start (G : GF tb K mg cA fA fD) (ok : AllOk P w K mg base tb cA fA fD Pg WF k) {f : Addr} {fd : FuncData} (F : FunD K "_law_start" "_law_start" (defArgs (top 22)) (defBody (top 22)) (defScope (top 22)) [] [] f fd) : FnOk P w K mg base (L2.CX P w) (k + 1) f fd ["_law_script"] (spN K cA Pg WF (k + 1) 8 1) :=
  fn_mk F (N := ["_law_script"]) (ps := ["_law_script"]) ⟨rfl, rfl, rfl, by decide +kernel, rfl, by decide +kernel, by decide +kernel⟩ (i := 8) (d := S__law_start) rfl rfl rfl G ok fun X E hX l hp => by
    obtain ⟨cdv, A, outer, s, H, rfl⟩ := hX
    exact (ss_cons (s_ret (d_lst (a_cons (d_ite (t_ne l d_var (d_lst a_nil)) (d_list l (a_cons d_var a_nil)) (d_lst (a_cons d_int a_nil))) (a_cons d_int a_nil)))) ss_nil)
theorem n__law_draw {f : Addr} {fd : FuncData} (F : FunD K "_law_draw" "_law_draw" (defArgs (top 23)) (defBody (top 23)) (defScope (top 23)) [] [] f fd) : Binds K fd ["_law_draws", "_law_limit"] [] := F.bindsN (ps := ["_law_draws", "_law_limit"]) fun _ _ _ _ _ _ us hl => match us, hl with | [_, _], _ => rfl
theorem o__law_draw (G : GF tb K mg cA fA fD) (ok : AllOk P w K mg base tb cA fA fD Pg WF k) {f : Addr} {fd : FuncData} (F : FunD K "_law_draw" "_law_draw" (defArgs (top 23)) (defBody (top 23)) (defScope (top 23)) [] [] f fd) : FnOk P w K mg base (L2.CX P w) (k + 1) f fd ["_law_draws", "_law_limit"] (spN K cA Pg WF (k + 1) 9 2) :=
  fn_mk F (N := ["_law_draws", "_law_limit", "_law_numbers", "_law_at", "_law_cell", "_law_mixed"]) (ps := ["_law_draws", "_law_limit"]) ⟨rfl, rfl, rfl, by decide +kernel, rfl, by decide +kernel, by decide +kernel⟩ (i := 9) (d := S__law_draw) rfl rfl rfl G ok fun X E hX l hp => by
    obtain ⟨cdv, A, outer, s, H, rfl⟩ := hX
    exact (ss_cons (s_set l (d_idx l d_var d_int)) (ss_cons (s_seti l d_var d_int (d_add (d_idx l d_var d_int) d_int)) (ss_cons (s_set l (d_mod (d_idx l d_var d_int) (d_len l (a_cons d_var a_nil)))) (ss_cons (s_set l (d_idx l d_var d_var)) (ss_cons (s_if (t_ge l d_var d_int) (ss_cons (s_seti l d_var d_var (d_fdiv d_var d_var)) (ss_cons (s_ret (d_mod d_var d_var)) ss_nil)) ss_nil) (ss_cons (s_set l (d_mod (d_add d_var (d_mul d_int (d_idx l d_var d_int))) d_int)) (ss_cons (s_set l (d_mod (d_pow d_var d_int) d_int)) (ss_cons (s_ret (d_mod (d_fdiv (d_mod (d_add (d_mul (d_fdiv d_var d_int) d_int) d_var) d_int) d_int) d_var)) ss_nil))))))))
theorem n__law_pick {f : Addr} {fd : FuncData} (F : FunD K "_law_pick" "_law_pick" (defArgs (top 24)) (defBody (top 24)) (defScope (top 24)) [] [] f fd) : Binds K fd ["_law_draws", "_law_choices"] [] := F.bindsN (ps := ["_law_draws", "_law_choices"]) fun _ _ _ _ _ _ us hl => match us, hl with | [_, _], _ => rfl
theorem o__law_pick (G : GF tb K mg cA fA fD) (ok : AllOk P w K mg base tb cA fA fD Pg WF k) {f : Addr} {fd : FuncData} (F : FunD K "_law_pick" "_law_pick" (defArgs (top 24)) (defBody (top 24)) (defScope (top 24)) [] [] f fd) : FnOk P w K mg base (L2.CX P w) (k + 1) f fd ["_law_draws", "_law_choices"] (spN K cA Pg WF (k + 1) 10 2) :=
  fn_mk F (N := ["_law_draws", "_law_choices"]) (ps := ["_law_draws", "_law_choices"]) ⟨rfl, rfl, rfl, by decide +kernel, rfl, by decide +kernel, by decide +kernel⟩ (i := 10) (d := S__law_pick) rfl rfl rfl G ok fun X E hX l hp => by
    obtain ⟨cdv, A, outer, s, H, rfl⟩ := hX
    exact (ss_cons (s_ret (d_idx l d_var (d_call l (a_cons d_var (a_cons (d_len l (a_cons d_var a_nil)) a_nil))))) ss_nil)
theorem n__law_error {f : Addr} {fd : FuncData} (F : FunD K "_law_error" "_law_error" (defArgs (top 25)) (defBody (top 25)) (defScope (top 25)) [] [] f fd) : Binds K fd ["_law_caught"] [] := F.bindsN (ps := ["_law_caught"]) fun _ _ _ _ _ _ us hl => match us, hl with | [_], _ => rfl
theorem o__law_error (G : GF tb K mg cA fA fD) (ok : AllOk P w K mg base tb cA fA fD Pg WF k) {f : Addr} {fd : FuncData} (F : FunD K "_law_error" "_law_error" (defArgs (top 25)) (defBody (top 25)) (defScope (top 25)) [] [] f fd) : FnOk P w K mg base (L2.CX P w) (k + 1) f fd ["_law_caught"] (spN K cA Pg WF (k + 1) 11 1) :=
  fn_mk F (N := ["_law_caught", "_law_kinds"]) (ps := ["_law_caught"]) ⟨rfl, rfl, rfl, by decide +kernel, rfl, by decide +kernel, by decide +kernel⟩ (i := 11) (d := S__law_error) rfl rfl rfl G ok fun X E hX l hp => by
    obtain ⟨cdv, A, outer, s, H, rfl⟩ := hX
    exact (ss_cons (s_set l (d_lst (a_cons (d_isin_cls l d_var) (a_cons (d_isin_cls l d_var) (a_cons (d_isin_cls l d_var) a_nil))))) (ss_cons (s_set l (d_add d_var (d_lst (a_cons (d_isin_cls l d_var) (a_cons (d_isin_cls l d_var) (a_cons (d_isin_cls l d_var) a_nil)))))) (ss_cons (s_if (t_w (w_or (t_ne l (d_m_countL d_var (a_cons d_bl a_nil)) d_int) (w_or (t_nt (t_val (d_isin_cls l d_var))) (w_or1 (t_nt (t_val (d_isin_VE l d_var))))))) (ss_cons (s_ret d_str) ss_nil) ss_nil) (ss_cons (s_ret (d_idx l (d_lst (a_cons d_str (a_cons d_str (a_cons d_str (a_cons d_str (a_cons d_str (a_cons d_str a_nil))))))) (d_m_indexL d_var (a_cons d_bl a_nil)))) ss_nil))))
theorem n__law_many {f : Addr} {fd : FuncData} (F : FunD K "_law_many" "_law_many" (defArgs (top 26)) (defBody (top 26)) (defScope (top 26)) [] [] f fd) : Binds K fd ["_law_draws"] [] := F.bindsN (ps := ["_law_draws"]) fun _ _ _ _ _ _ us hl => match us, hl with | [_], _ => rfl
theorem o__law_many (G : GF tb K mg cA fA fD) (ok : AllOk P w K mg base tb cA fA fD Pg WF k) {f : Addr} {fd : FuncData} (F : FunD K "_law_many" "_law_many" (defArgs (top 26)) (defBody (top 26)) (defScope (top 26)) [] [] f fd) : FnOk P w K mg base (L2.CX P w) (k + 1) f fd ["_law_draws"] (spN K cA Pg WF (k + 1) 12 1) :=
  fn_mk F (N := ["_law_draws"]) (ps := ["_law_draws"]) ⟨rfl, rfl, rfl, by decide +kernel, rfl, by decide +kernel, by decide +kernel⟩ (i := 12) (d := S__law_many) rfl rfl rfl G ok fun X E hX l hp => by
    obtain ⟨cdv, A, outer, s, H, rfl⟩ := hX
    exact (ss_cons (s_ret (d_call l (a_cons d_var (a_cons (d_lst (a_cons (d_tup (a_cons d_int (a_cons d_int a_nil))) (a_cons (d_tup (a_cons d_int (a_cons d_int a_nil))) (a_cons (d_tup (a_cons d_int (a_cons d_int a_nil))) (a_cons (d_tup (a_cons d_int (a_cons d_int a_nil))) (a_cons (d_tup (a_cons d_int (a_cons d_int a_nil))) (a_cons (d_tup (a_cons d_int (a_cons d_int a_nil))) (a_cons (d_tup (a_cons d_int (a_cons d_int a_nil))) (a_cons (d_tup (a_cons d_int (a_cons d_int a_nil))) a_nil))))))))) a_nil)))) ss_nil)
theorem n__law_signs {f : Addr} {fd : FuncData} (F : FunD K "_law_signs" "_law_signs" (defArgs (top 27)) (defBody (top 27)) (defScope (top 27)) [] [] f fd) : Binds K fd ["_law_many_here"] [] := F.bindsN (ps := ["_law_many_here"]) fun _ _ _ _ _ _ us hl => match us, hl with | [_], _ => rfl
theorem o__law_signs (G : GF tb K mg cA fA fD) (ok : AllOk P w K mg base tb cA fA fD Pg WF k) {f : Addr} {fd : FuncData} (F : FunD K "_law_signs" "_law_signs" (defArgs (top 27)) (defBody (top 27)) (defScope (top 27)) [] [] f fd) : FnOk P w K mg base (L2.CX P w) (k + 1) f fd ["_law_many_here"] (spN K cA Pg WF (k + 1) 13 1) :=
  fn_mk F (N := ["_law_many_here"]) (ps := ["_law_many_here"]) ⟨rfl, rfl, rfl, by decide +kernel, rfl, by decide +kernel, by decide +kernel⟩ (i := 13) (d := S__law_signs) rfl rfl rfl G ok fun X E hX l hp => by
    obtain ⟨cdv, A, outer, s, H, rfl⟩ := hX
    exact (ss_cons (s_ret (d_add (d_slice d_str o_none (o_some (d_idx l d_var d_int))) (d_slice d_str o_none (o_some (d_idx l d_var d_int))))) ss_nil)
theorem n__law_table {f : Addr} {fd : FuncData} (F : FunD K "_law_table" "_law_table" (defArgs (top 28)) (defBody (top 28)) (defScope (top 28)) [] [] f fd) : Binds K fd ["_law_draws", "_law_many_here"] [] := F.bindsN (ps := ["_law_draws", "_law_many_here"]) fun _ _ _ _ _ _ us hl => match us, hl with | [_, _], _ => rfl
theorem o__law_table (G : GF tb K mg cA fA fD) (ok : AllOk P w K mg base tb cA fA fD Pg WF k) {f : Addr} {fd : FuncData} (F : FunD K "_law_table" "_law_table" (defArgs (top 28)) (defBody (top 28)) (defScope (top 28)) [] [] f fd) : FnOk P w K mg base (L2.CX P w) (k + 1) f fd ["_law_draws", "_law_many_here"] (spN K cA Pg WF (k + 1) 14 2) :=
  fn_mk F (N := ["_law_draws", "_law_many_here", "_law_places", "_law_found", "_law_place", "_law_own", "_law_sign", "_law_k"]) (ps := ["_law_draws", "_law_many_here"]) ⟨rfl, rfl, rfl, by decide +kernel, rfl, by decide +kernel, by decide +kernel⟩ (i := 14) (d := S__law_table) rfl rfl rfl G ok fun X E hX l hp => by
    obtain ⟨cdv, A, outer, s, H, rfl⟩ := hX
    exact (ss_cons (s_set l (d_lc (own := [("_law_sign", 6)]) l (i_src (d_call l (a_cons d_var a_nil))) (fun s H C cl fp l => (g_name l)) (fun s H C cl fp l => ts_nil) (fun s H C cl fp l => (d_call l (a_cons d_var (a_cons d_int a_nil)))))) (ss_cons (s_set l (d_lst a_nil)) (ss_cons (s_for l hp (i_range1 l (a_cons d_int a_nil)) (g_name l) (ss_cons (s_set l (d_m_join d_str (a_cons (d_lc (own := [("_law_k", 7)]) l (i_range1 l (a_cons (d_len l (a_cons d_var a_nil)) a_nil)) (fun s H C cl fp l => (g_name l)) (fun s H C cl fp l => (ts_one (t_eq l (d_idx l d_var d_var) d_var))) (fun s H C cl fp l => (d_idx l (d_call l (a_cons d_var a_nil)) d_var))) a_nil))) (ss_cons (s_if (t_ne l d_var d_str) (ss_cons (s_expr (d_m_append d_var (a_cons (d_tup (a_cons (d_call l (a_cons d_var (a_cons (d_lst (a_cons d_str (a_cons d_str (a_cons d_str (a_cons d_str (a_cons d_str a_nil)))))) a_nil))) (a_cons d_var a_nil))) a_nil))) ss_nil) ss_nil) ss_nil))) (ss_cons (s_ret (d_tuple l (a_cons d_var a_nil))) ss_nil))))
theorem n__law_parsed {f : Addr} {fd : FuncData} (F : FunD K "_law_parsed" "_law_parsed" (defArgs (top 29)) (defBody (top 29)) (defScope (top 29)) [] [] f fd) : Binds K fd ["_law_text"] [] := F.bindsN (ps := ["_law_text"]) fun _ _ _ _ _ _ us hl => match us, hl with | [_], _ => rfl
theorem o__law_parsed (G : GF tb K mg cA fA fD) (ok : AllOk P w K mg base tb cA fA fD Pg WF k) {f : Addr} {fd : FuncData} (F : FunD K "_law_parsed" "_law_parsed" (defArgs (top 29)) (defBody (top 29)) (defScope (top 29)) [] [] f fd) : FnOk P w K mg base (L2.CX P w) (k + 1) f fd ["_law_text"] (spN K cA Pg WF (k + 1) 15 1) :=
  fn_mk F (N := ["_law_text", "_law_found", "_law_caught", "e"]) (ps := ["_law_text"]) ⟨rfl, rfl, rfl, by decide +kernel, rfl, by decide +kernel, by decide +kernel⟩ (i := 15) (d := S__law_parsed) rfl rfl rfl G ok fun X E hX l hp => by
    obtain ⟨cdv, A, outer, s, H, rfl⟩ := hX
    exact (ss_cons (s_set l d_non) (ss_cons (s_set l d_non) (ss_cons (s_try l (fun W pn xe l hp => (b_asg l (d_call l (a_cons d_var a_nil))))) (ss_cons (s_ret (d_ite (t_isN d_var) d_var (d_call l (a_cons d_var a_nil)))) ss_nil))))
theorem n__law_words {f : Addr} {fd : FuncData} (F : FunD K "_law_words" "_law_words" (defArgs (top 30)) (defBody (top 30)) (defScope (top 30)) [] [] f fd) : Binds K fd ["_law_table_here"] [] := F.bindsN (ps := ["_law_table_here"]) fun _ _ _ _ _ _ us hl => match us, hl with | [_], _ => rfl
theorem o__law_words (G : GF tb K mg cA fA fD) (ok : AllOk P w K mg base tb cA fA fD Pg WF k) {f : Addr} {fd : FuncData} (F : FunD K "_law_words" "_law_words" (defArgs (top 30)) (defBody (top 30)) (defScope (top 30)) [] [] f fd) : FnOk P w K mg base (L2.CX P w) (k + 1) f fd ["_law_table_here"] (spN K cA Pg WF (k + 1) 16 1) :=
  fn_mk F (N := ["_law_table_here", "_law_word", "_law_signs_here"]) (ps := ["_law_table_here"]) ⟨rfl, rfl, rfl, by decide +kernel, rfl, by decide +kernel, by decide +kernel⟩ (i := 16) (d := S__law_words) rfl rfl rfl G ok fun X E hX l hp => by
    obtain ⟨cdv, A, outer, s, H, rfl⟩ := hX
    exact (ss_cons (s_ret (d_m_join d_str (a_cons (d_lc (own := [("_law_word", 1), ("_law_signs_here", 2)]) l (i_src d_var) (fun s H C cl fp l => (g_tup l (gs_cons (g_name l) (gs_cons (g_name l) gs_nil)))) (fun s H C cl fp l => ts_nil) (fun s H C cl fp l => (d_add (d_add d_var d_str) d_var))) a_nil))) ss_nil)
theorem n__law_rejected {f : Addr} {fd : FuncData} (F : FunD K "_law_rejected" "_law_rejected" (defArgs (top 31)) (defBody (top 31)) (defScope (top 31)) [] [] f fd) : Binds K fd [] [] := F.bindsN (ps := []) fun _ _ _ _ _ _ us hl => match us, hl with | [], _ => rfl
theorem o__law_rejected (G : GF tb K mg cA fA fD) (ok : AllOk P w K mg base tb cA fA fD Pg WF k) {f : Addr} {fd : FuncData} (F : FunD K "_law_rejected" "_law_rejected" (defArgs (top 31)) (defBody (top 31)) (defScope (top 31)) [] [] f fd) : FnOk P w K mg base (L2.CX P w) (k + 1) f fd [] (spN K cA Pg WF (k + 1) 17 0) :=
  fn_mk F (N := ["_law_odd", "_law_bad"]) (ps := []) ⟨rfl, rfl, rfl, by decide +kernel, rfl, by decide +kernel, by decide +kernel⟩ (i := 17) (d := S__law_rejected) rfl rfl rfl G ok fun X E hX l hp => by
    obtain ⟨cdv, A, outer, s, H, rfl⟩ := hX
    exact (ss_cons (s_set l (d_lst (a_cons d_non (a_cons d_int (a_cons d_str (a_cons d_str (a_cons d_str (a_cons d_str (a_cons d_str (a_cons d_str (a_cons d_str (a_cons d_str (a_cons d_str (a_cons d_str (a_cons d_str (a_cons d_str (a_cons d_str (a_cons d_str (a_cons d_str a_nil))))))))))))))))))) (ss_cons (s_set l (d_add d_var (d_lst (a_cons d_str (a_cons d_str (a_cons d_str (a_cons d_str (a_cons d_str (a_cons d_str (a_cons d_str (a_cons d_str a_nil))))))))))) (ss_cons (s_set l (d_add d_var (d_lst (a_cons d_str (a_cons d_str (a_cons d_str (a_cons (d_lst (a_cons d_str a_nil)) (a_cons d_str (a_cons d_str (a_cons d_str (a_cons d_str (a_cons d_str a_nil)))))))))))) (ss_cons (s_set l (d_add d_var (d_lst (a_cons (d_add d_str (d_mul d_str d_int)) (a_cons (d_add (d_mul d_str d_int) d_str) (a_cons d_str (a_cons d_str a_nil))))))) (ss_cons (s_ret (d_eq l (d_lc (own := [("_law_bad", 1)]) l (i_src d_var) (fun s H C cl fp l => (g_name l)) (fun s H C cl fp l => ts_nil) (fun s H C cl fp l => (d_call l (a_cons d_var a_nil)))) (d_mul (d_lst (a_cons d_str a_nil)) d_int))) ss_nil)))))
theorem o_law (G : GF tb K mg cA fA fD) (ok : AllOk P w K mg base tb cA fA fD Pg WF k) {f : Addr} {fd : FuncData} (F : FunD K "law" "law" (defArgs (top 32)) (defBody (top 32)) (defScope (top 32)) [] [] f fd) : FnOk P w K mg base CXn (k + 1) f fd ["_law_script"] (sp0 K cA (fun h vs => evF Pg WF (k + 1) 18 vs h) 1) :=
  fn_mk0 F (N := ["_law_script", "_law_draws", "_law_table_here", "_law_text", "_law_pool", "_law_words_here", "_law_turn", "_law_at", "_law_mark", "_law_tails", "_law_other", "_law_found"]) (ps := ["_law_script"]) ⟨rfl, rfl, rfl, by decide +kernel, rfl, by decide +kernel, by decide +kernel⟩ (i := 18) (d := S_law) rfl rfl rfl G ok fun X hX l hp => by
    obtain ⟨cdv, A, outer, s, H, E, rfl⟩ := hX
    exact (ss_cons (s_set l (d_call l (a_cons d_var a_nil))) (ss_cons (s_set l (d_call l (a_cons d_var (a_cons (d_call l (a_cons d_var a_nil)) a_nil)))) (ss_cons (s_set l (d_call l (a_cons d_var a_nil))) (ss_cons (s_if (t_w (w_or (t_ne l d_var (d_call l (a_cons d_var a_nil))) (w_or1 (t_ne l (d_call l (a_cons d_var a_nil)) d_var)))) (ss_cons (s_ret d_bl) ss_nil) ss_nil) (ss_cons (s_set l (d_lst (a_cons d_str (a_cons d_str (a_cons d_str (a_cons d_str (a_cons d_str (a_cons d_str (a_cons d_str (a_cons d_str (a_cons d_str (a_cons d_str (a_cons d_str (a_cons d_str (a_cons d_str a_nil))))))))))))))) (ss_cons (s_set l (d_m_split d_var (a_cons d_str a_nil))) (ss_cons (s_for l hp (i_range1 l (a_cons d_int a_nil)) (g_name l) (ss_cons (s_par l (a_cons (d_call l (a_cons d_var (a_cons (d_add (d_len l (a_cons d_var a_nil)) d_int) a_nil))) (a_cons (d_call l (a_cons d_var (a_cons d_var a_nil))) a_nil))) (ss_cons (s_set l (d_lst (a_cons (d_add (d_add (d_slice d_var o_none (o_some d_var)) (d_lst (a_cons d_var a_nil))) (d_slice d_var (o_some (d_add d_var d_int)) o_none)) (a_cons (d_add (d_add (d_slice d_var o_none (o_some d_var)) (d_lst (a_cons d_var a_nil))) (d_slice d_var (o_some d_var) o_none)) (a_cons (d_add (d_slice d_var o_none (o_some d_var)) (d_slice d_var (o_some (d_add d_var d_int)) o_none)) a_nil))))) (ss_cons (s_set l (d_m_join d_str (a_cons (d_call l (a_cons d_var (a_cons d_var a_nil))) a_nil))) (ss_cons (s_set l (d_call l (a_cons d_var a_nil))) (ss_cons (s_if (t_w (w_and (t_ne l d_var d_str) (w_and1 (t_w (w_or (t_ne l (d_call l (a_cons d_var a_nil)) d_var) (w_or1 (t_notB (d_call l (a_cons d_var a_nil))))))))) (ss_cons (s_ret d_bl) ss_nil) ss_nil) ss_nil)))))) (ss_cons (s_ret (d_call0 l)) ss_nil))))))))
end
def fn : List He.DefD := ([dd "is_choice" 12, dd "is_level" 13, dd "all_signs" 14, dd "is_table" 15, dd "check_table" 16, dd "format_table" 18, dd "check_text" 19, dd "parse_table" 20, dd "_law_start" 22, dd "_law_draw" 23, dd "_law_pick" 24, dd "_law_error" 25, dd "_law_many" 26, dd "_law_signs" 27, dd "_law_table" 28, dd "_law_parsed" 29, dd "_law_words" 30, dd "_law_rejected" 31, dd "law" 32] : List He.DefD)
def faC : List He.Fa := ([.glo "law", .str "INFIX" "abc", .str "AHEAD" "pq", .glo "WORDS"] : List He.Fa)
def ts : List TuF := [("WORDS", [.str "left", .str "right", .str "none"])]
def loose : List Str := (["is_choice", "is_level", "all_signs", "is_table", "check_table", "format_table", "check_text", "parse_table", "_law_start", "_law_draw", "_law_pick", "_law_error", "_law_many", "_law_signs", "_law_table", "_law_parsed", "_law_words", "_law_rejected", "BindError", "BadTable"] : List Str) ++ (["BadMeaning", "BadRow", "BadNumber", "BadText", "NotFound", "INFIX", "AHEAD", "WORDS"] : List Str)
abbrev R : PySem.W.OpenRow := PySem.W.OpenLaw.row PySem.Challenge.rw_bindreads_k17_whole_table_texts
abbrev fa : List He.Fa := faOf tb faC
abbrev hk : PySem.W.Hook := hookM 4 fa fn ts tb.excs
def ob (s : PySem.W.SharedT) : AlM := obsMG 4 fa fn ts tb.excs (HandSHeadRun.getT s)
theorem ob_eq (s : PySem.W.SharedT) : ob s = hk.obs s.abs := obsMG_eq (HandSHeadRun.getT_eq s)
theorem run (w : World) : HandSHeadRun.RunEq R (PySem.W.view R.prog [32]) hk ob 6000 loose w := by
  intro os
  kernel_rfl
section
variable {P : Program} {w : World} {K : PySem.W.Frag} {mg : Str → Option Value} {base : Heap} {cA : Nat → Addr} {fD : Nat → FuncData}
abbrev fAf (K : PySem.W.Frag) : Nat → Addr := fun i => He.ga K (tb.fns.getD i ("", [])).1
theorem binds_all (hF : ∀ i, i < 19 → FunD K (fn.getD i (dd "law" 0)).name (fn.getD i (dd "law" 0)).qual (fn.getD i (dd "law" 0)).params (fn.getD i (dd "law" 0)).body (fn.getD i (dd "law" 0)).scope ((fn.getD i (dd "law" 0)).dvs K) ((fn.getD i (dd "law" 0)).kws K) (He.fAd K (fn.getD i (dd "law" 0)).at_) (fD i)) : ∀ i, i < tb.fns.length → PySem.W.keepIn K (.ref (fAf K i)) = true ∧ Binds K (fD i) (tb.fns.getD i ("", [])).2 [] := fun i hi => match i, hi with
  | 0, _ => ⟨(hF 0 (by decide)).kp, n_is_choice (hF 0 (by decide))⟩
  | 1, _ => ⟨(hF 1 (by decide)).kp, n_is_level (hF 1 (by decide))⟩
  | 2, _ => ⟨(hF 2 (by decide)).kp, n_all_signs (hF 2 (by decide))⟩
  | 3, _ => ⟨(hF 3 (by decide)).kp, n_is_table (hF 3 (by decide))⟩
  | 4, _ => ⟨(hF 4 (by decide)).kp, n_check_table (hF 4 (by decide))⟩
  | 5, _ => ⟨(hF 5 (by decide)).kp, n_format_table (hF 5 (by decide))⟩
  | 6, _ => ⟨(hF 6 (by decide)).kp, n_check_text (hF 6 (by decide))⟩
  | 7, _ => ⟨(hF 7 (by decide)).kp, n_parse_table (hF 7 (by decide))⟩
  | 8, _ => ⟨(hF 8 (by decide)).kp, n__law_start (hF 8 (by decide))⟩
  | 9, _ => ⟨(hF 9 (by decide)).kp, n__law_draw (hF 9 (by decide))⟩
  | 10, _ => ⟨(hF 10 (by decide)).kp, n__law_pick (hF 10 (by decide))⟩
  | 11, _ => ⟨(hF 11 (by decide)).kp, n__law_error (hF 11 (by decide))⟩
  | 12, _ => ⟨(hF 12 (by decide)).kp, n__law_many (hF 12 (by decide))⟩
  | 13, _ => ⟨(hF 13 (by decide)).kp, n__law_signs (hF 13 (by decide))⟩
  | 14, _ => ⟨(hF 14 (by decide)).kp, n__law_table (hF 14 (by decide))⟩
  | 15, _ => ⟨(hF 15 (by decide)).kp, n__law_parsed (hF 15 (by decide))⟩
  | 16, _ => ⟨(hF 16 (by decide)).kp, n__law_words (hF 16 (by decide))⟩
  | 17, _ => ⟨(hF 17 (by decide)).kp, n__law_rejected (hF 17 (by decide))⟩
  | n + 18, h => absurd h (Nat.not_lt.mpr (Nat.le_add_left _ _))
theorem all_ok (G : GF tb K mg cA (fAf K) fD) (hF : ∀ i, i < 19 → FunD K (fn.getD i (dd "law" 0)).name (fn.getD i (dd "law" 0)).qual (fn.getD i (dd "law" 0)).params (fn.getD i (dd "law" 0)).body (fn.getD i (dd "law" 0)).scope ((fn.getD i (dd "law" 0)).dvs K) ((fn.getD i (dd "law" 0)).kws K) (He.fAd K (fn.getD i (dd "law" 0)).at_) (fD i)) : ∀ k : Nat, AllOk P w K mg base tb cA (fAf K) fD Pg WF k
  | 0 => AllOk.zero
  | k + 1 => fun i hi => match i, hi with
    | 0, _ => o_is_choice G (all_ok G hF k) (hF 0 (by decide))
    | 1, _ => o_is_level G (all_ok G hF k) (hF 1 (by decide))
    | 2, _ => o_all_signs G (all_ok G hF k) (hF 2 (by decide))
    | 3, _ => o_is_table G (all_ok G hF k) (hF 3 (by decide))
    | 4, _ => o_check_table G (all_ok G hF k) (hF 4 (by decide))
    | 5, _ => o_format_table G (all_ok G hF k) (hF 5 (by decide))
    | 6, _ => o_check_text G (all_ok G hF k) (hF 6 (by decide))
    | 7, _ => o_parse_table G (all_ok G hF k) (hF 7 (by decide))
    | 8, _ => o__law_start G (all_ok G hF k) (hF 8 (by decide))
    | 9, _ => o__law_draw G (all_ok G hF k) (hF 9 (by decide))
    | 10, _ => o__law_pick G (all_ok G hF k) (hF 10 (by decide))
    | 11, _ => o__law_error G (all_ok G hF k) (hF 11 (by decide))
    | 12, _ => o__law_many G (all_ok G hF k) (hF 12 (by decide))
    | 13, _ => o__law_signs G (all_ok G hF k) (hF 13 (by decide))
    | 14, _ => o__law_table G (all_ok G hF k) (hF 14 (by decide))
    | 15, _ => o__law_parsed G (all_ok G hF k) (hF 15 (by decide))
    | 16, _ => o__law_words G (all_ok G hF k) (hF 16 (by decide))
    | 17, _ => o__law_rejected G (all_ok G hF k) (hF 17 (by decide))
    | n + 18, h => absurd h (Nat.not_lt.mpr (Nat.le_add_left _ _))
theorem facts {h : Heap} {f : Addr} (X : K.In h) (G : h.Ns mainGlobals mg) (hfa : mg ("law" : Str) = some (.ref f)) (c : SaysM fa fn ts tb.excs K) :
    ∃ fd : FuncData, (∀ (s : Shared) (v : Value), BindsTo s fd ⟨[v], []⟩ [("_law_script", v)]) ∧ ∀ base : Heap, K.In base → base.Ns mainGlobals mg → FnOk P w K mg base CXn 201 f fd ["_law_script"] (sp0 K (fun i => He.ga K (tb.excs.getD i "")) (fun h vs => evF Pg WF 201 18 vs h) 1) := by
  obtain ⟨fD, hF⟩ := defs_of c (n := 19) rfl (by decide) (dd "law" 0)
  have hc : ∀ {i : Nat} {f : He.Fa}, faC[i]? = some f → f.ok K = true := fun e => c.all (List.mem_append_right _ (List.mem_append_right _ (List.mem_append_right _ (List.mem_append_right _ (List.mem_of_getElem? e)))))
  have hcn : ∀ (i : Nat), i < tb.cons.length → ∃ u, mg (tb.cons.getD i ("", .non)).1 = some u ∧ ConstR K (tb.cons.getD i ("", .non)).2 u := fun i hi => match i, hi with
    | 0, _ => by obtain ⟨t, e⟩ := He.str_ok X G (x := "INFIX") (z := "abc") (hc (i := 1) rfl); exact ⟨_, e, const_str (s := [97, 98, 99]) (by kernel_rfl) rfl rfl⟩
    | 1, _ => by obtain ⟨t, e⟩ := He.str_ok X G (x := "AHEAD") (z := "pq") (hc (i := 2) rfl); exact ⟨_, e, const_str (s := [112, 113]) (by kernel_rfl) rfl rfl⟩
    | 2, _ => ⟨_, He.glo_ok X G (x := "WORDS") (hc (i := 3) rfl), const_tup (c.tu 0 rfl) fun ρ n H => (.cons (.str ⟨by decide, by decide⟩) (.cons (.str ⟨by decide, by decide⟩) (.cons (.str ⟨by decide, by decide⟩) .nil)))⟩
    | n + 3, h => absurd h (Nat.not_lt.mpr (Nat.le_add_left _ _))
  have G2 : GF tb K mg (fun i => He.ga K (tb.excs.getD i "")) (fAf K) fD := gf_of X G c (binds_all hF) hcn
  have e := hfa.symm.trans (He.glo_ok X G (x := "law") (hc (i := 0) rfl))
  cases e
  have F : FunD K "law" "law" (defArgs (top 32)) (defBody (top 32)) (defScope (top 32)) [] [] (He.ga K "law") (fD 18) := hF 18 (by decide)
  have b := FunD.bindsA (ps := ["_law_script"]) F fun _ _ _ _ _ _ us hl => match us, hl with | [_], _ => rfl
  exact ⟨fD 18, fun s v => b s [v] rfl, fun base _ _ => o_law G2 (all_ok G2 hF 200) F⟩
end
end HD

namespace HD
open MP MP.Z
local macro_rules | `(tactic| simp_arith [$ts,*]) => `(tactic| simp -implicitDefEqProofs only [cm_non,cm_bl,cm_int,cm_str,cm_var,cm_gc,cm_bin,cm_neg,cm_nt,cm_and,cm_or,cm_cmp,cm_isN,cm_isB,cm_chain,cm_ite,cm_tup,cm_lst,cm_dct,cm_idx,cm_slice,cm_rev,cm_call,cm_bi,cm_isinst,cm_comp,cm_indexL,cm_indexS,cm_join,cm_split,cm_countL,cm_get,cm_setdefault,cm_remove,cm_append,cm_pop,cm_src,cm_enum,cm_zip,cm_range,vr_src,vr_enum,vr_zip,vr_range,cm_nil,cm_cons,vo_non,vo_bl,vo_int,vo_str,vo_var,vo_gc,vo_bin,vo_neg,vo_nt,vo_and,vo_or,vo_cmp,vo_isN,vo_isB,vo_chain,vo_ite,vo_tup,vo_lst,vo_dct,vo_idx,vo_slice,vo_rev,vo_call,vo_bi,vo_isinst,vo_comp,vo_indexL,vo_indexS,vo_join,vo_split,vo_countL,vo_get,vo_setdefault,vo_remove,vo_append,vo_pop,vr_non,vr_bl,vr_int,vr_str,vr_var,vr_gc,vr_bin,vr_neg,vr_nt,vr_and,vr_or,vr_cmp,vr_isN,vr_isB,vr_chain,vr_ite,vr_tup,vr_lst,vr_dct,vr_idx,vr_slice,vr_rev,vr_call,vr_bi,vr_isinst,vr_comp,vr_indexL,vr_indexS,vr_join,vr_split,vr_countL,vr_get,vr_setdefault,vr_remove,vr_append,vr_pop,vr_nil,vr_cons,fc_non,fc_bl,fc_int,fc_str,fc_var,fc_gc,fc_bin,fc_neg,fc_nt,fc_and,fc_or,fc_cmp,fc_isN,fc_isB,fc_chain,fc_ite,fc_tup,fc_lst,fc_dct,fc_idx,fc_slice,fc_rev,fc_call,fc_isinst,fc_comp,fc_list,fc_listRange,fc_sorted,fc_len,fc_tuple,fc_all,fc_min,fc_max,fc_sum,fc_set,fc_strOf,fc_dict,fc_indexL,fc_indexS,fc_join,fc_split,fc_countL,fc_get,fc_setdefault,fc_remove,fc_append,fc_pop,ld_non,ld_bl,ld_int,ld_str,ld_tup,ld_lst,ld_dic,q_x0,q_x0s,q_kS,q_kSr,q_kSc,q_asg,q_kAsg,q_kAsgU,q_par,q_evP0,q_evP,q_expr,q_ret,q_retN,q_ife,q_kIfe,q_for,q_kFor,q_while,q_raise,q_pass,q_cont,q_seti,q_kSeti,q_aug,q_non,q_bl,q_int,q_str,q_var,q_gc,q_neg,q_nt,q_bin,q_cmp,q_and,q_or,q_and1,q_and2,q_or1,q_or2,q_kAnd,q_kOr,q_isN,q_isB,q_chain,q_kCh3,q_ite,q_kIte,q_tup,q_lst,kTup_n0,kTup_n1,kTup_n2,kTup_n3,kTup_n4,kTup_n5,kTup_n6,kTup_n7,kTup_n8,kTup_n9,kTup_n10,kTup_n11,kTup_n12,kTup_n13,kTup_n14,kTup_n15,kTup_n16,kTup_n17,kTup_n18,kTup_n19,kTup_n20,kTup_n21,kTup_n22,kTup_n23,kTup_n24,kTup_n25,kTup_n26,kTup_n27,kTup_n28,kTup_n29,kTup_n30,kTup_n31,kTup_n32,kLst_n0,kLst_n1,kLst_n2,kLst_n3,kLst_n4,kLst_n5,kLst_n6,kLst_n7,kLst_n8,kLst_n9,kLst_n10,kLst_n11,kLst_n12,kLst_n13,kLst_n14,kLst_n15,kLst_n16,kLst_n17,kLst_n18,kLst_n19,kLst_n20,kLst_n21,kLst_n22,kLst_n23,kLst_n24,kLst_n25,kLst_n26,kLst_n27,kLst_n28,kLst_n29,kLst_n30,kLst_n31,kLst_n32,q_dct,q_idx,q_slice,q_rev,q_call,q_bi,q_append,q_kApp,q_pop,q_join,q_split,q_indexL,q_indexS,q_get,q_isinst,q_comp,q_evs0,q_evs,q_evBs0,q_evBs1,q_evBs2,q_evT0,q_evT1,q_range,q_enum,q_zip,q_src,q_tF,q_eF,q_bF,q_cF,evB_var,evB_ev,kNeg,kNot,kCmp1,kCmp2,kBin1,kBin2,kIsN,kIsB,kCh1,kCh2,kCh4,kIdx1,kIdx2,kSl1,kSl2,kSl3,kRev,kCall,kBi,kMt,kMt2,kIsi,kComp,kEs,kEs2,kB1,kTru,kRg,kEnum,kSrc,kZip,kZip2,kP1,kP2,kPar,kSeti2,kAug,kExpr,kRet,readV,peekV,app0,pop0,ownsL,ownsX,hasV,seti0,augW,aug0,List.getElem?_cons_zero,List.getElem?_cons_succ,List.set_cons_zero,List.set_cons_succ,R0.bind_ret,R0.bind_exc,bind_ite,ofV0_some,xsO_some,envO_some,tru0_bl,ite_ret,ite_retB,ite_fl,ite_bl,rt0_ret,rt0_next,rt0_exc,rt0_ite,callF_ret,callF_exc,opt0_some,for0_nil,for0k_next,for0k_cont,for0k_ret,lcR_some,lc0_nil,biV_len,biV_list,biV_tuple,biV_sorted,biV_all,biV_sum,biV_str,biV_min,biV_max,listV,tupleV,bO,not0,neg0,isN0_non,isN0_bl,isN0_int,isN0_str,isN0_tup,isN0_lst,isB0,part0_non,part0_int,part0_neg,part0_bi,part0_idx,part0_var,part0_bin,part0_call,part0_gc,itmV,tyM0,shareV_nil,shareV_cons,shAt_some,shO_none,shO_b,shO_sh,hide_nil,hide_cons,hideO_none,hideO_f,hideO_t,hideO_sh,hideO_ow,wipe0,asgV,asgVs,setP,isNil,okO_t,eqV_int,eqV_str,eqV_bl,eqV_nn,eqV_ns,eqV_sn,eqV_ni,eqV_in,eqV_is,eqV_si,Bool.and_true,Bool.true_and,Bool.and_false,Bool.false_and,Bool.and_self,Bool.not_true,Bool.not_false,Bool.true_or,Bool.false_or,Bool.or_true,Bool.or_false,if_true,if_false,Bool.false_eq_true,Bool.not_eq_true,reduceIte,Option.map_some,List.all_cons,List.all_nil,List.any_cons,List.any_nil,q_dctK,kDct,isinVT_int,isinVT_bool,isinVT_str,isinVT_list,isinVT_tuple,isinVT_cls,q_countL,q_try,try0_some,try0_none,try0_exc,ld_exc,retW_ret,retF_ret,retW_ite,retF_ite,goesOn_n,goesOn_c,true_and,and_true,implies_true,decide_true,decide_false,c_INFIX,c_AHEAD,c_WORDS, $ts,*])
local macro_rules | `(tactic| simp_arith [$ts,*] $l:location) => `(tactic| simp -implicitDefEqProofs only [cm_non,cm_bl,cm_int,cm_str,cm_var,cm_gc,cm_bin,cm_neg,cm_nt,cm_and,cm_or,cm_cmp,cm_isN,cm_isB,cm_chain,cm_ite,cm_tup,cm_lst,cm_dct,cm_idx,cm_slice,cm_rev,cm_call,cm_bi,cm_isinst,cm_comp,cm_indexL,cm_indexS,cm_join,cm_split,cm_countL,cm_get,cm_setdefault,cm_remove,cm_append,cm_pop,cm_src,cm_enum,cm_zip,cm_range,vr_src,vr_enum,vr_zip,vr_range,cm_nil,cm_cons,vo_non,vo_bl,vo_int,vo_str,vo_var,vo_gc,vo_bin,vo_neg,vo_nt,vo_and,vo_or,vo_cmp,vo_isN,vo_isB,vo_chain,vo_ite,vo_tup,vo_lst,vo_dct,vo_idx,vo_slice,vo_rev,vo_call,vo_bi,vo_isinst,vo_comp,vo_indexL,vo_indexS,vo_join,vo_split,vo_countL,vo_get,vo_setdefault,vo_remove,vo_append,vo_pop,vr_non,vr_bl,vr_int,vr_str,vr_var,vr_gc,vr_bin,vr_neg,vr_nt,vr_and,vr_or,vr_cmp,vr_isN,vr_isB,vr_chain,vr_ite,vr_tup,vr_lst,vr_dct,vr_idx,vr_slice,vr_rev,vr_call,vr_bi,vr_isinst,vr_comp,vr_indexL,vr_indexS,vr_join,vr_split,vr_countL,vr_get,vr_setdefault,vr_remove,vr_append,vr_pop,vr_nil,vr_cons,fc_non,fc_bl,fc_int,fc_str,fc_var,fc_gc,fc_bin,fc_neg,fc_nt,fc_and,fc_or,fc_cmp,fc_isN,fc_isB,fc_chain,fc_ite,fc_tup,fc_lst,fc_dct,fc_idx,fc_slice,fc_rev,fc_call,fc_isinst,fc_comp,fc_list,fc_listRange,fc_sorted,fc_len,fc_tuple,fc_all,fc_min,fc_max,fc_sum,fc_set,fc_strOf,fc_dict,fc_indexL,fc_indexS,fc_join,fc_split,fc_countL,fc_get,fc_setdefault,fc_remove,fc_append,fc_pop,ld_non,ld_bl,ld_int,ld_str,ld_tup,ld_lst,ld_dic,q_x0,q_x0s,q_kS,q_kSr,q_kSc,q_asg,q_kAsg,q_kAsgU,q_par,q_evP0,q_evP,q_expr,q_ret,q_retN,q_ife,q_kIfe,q_for,q_kFor,q_while,q_raise,q_pass,q_cont,q_seti,q_kSeti,q_aug,q_non,q_bl,q_int,q_str,q_var,q_gc,q_neg,q_nt,q_bin,q_cmp,q_and,q_or,q_and1,q_and2,q_or1,q_or2,q_kAnd,q_kOr,q_isN,q_isB,q_chain,q_kCh3,q_ite,q_kIte,q_tup,q_lst,kTup_n0,kTup_n1,kTup_n2,kTup_n3,kTup_n4,kTup_n5,kTup_n6,kTup_n7,kTup_n8,kTup_n9,kTup_n10,kTup_n11,kTup_n12,kTup_n13,kTup_n14,kTup_n15,kTup_n16,kTup_n17,kTup_n18,kTup_n19,kTup_n20,kTup_n21,kTup_n22,kTup_n23,kTup_n24,kTup_n25,kTup_n26,kTup_n27,kTup_n28,kTup_n29,kTup_n30,kTup_n31,kTup_n32,kLst_n0,kLst_n1,kLst_n2,kLst_n3,kLst_n4,kLst_n5,kLst_n6,kLst_n7,kLst_n8,kLst_n9,kLst_n10,kLst_n11,kLst_n12,kLst_n13,kLst_n14,kLst_n15,kLst_n16,kLst_n17,kLst_n18,kLst_n19,kLst_n20,kLst_n21,kLst_n22,kLst_n23,kLst_n24,kLst_n25,kLst_n26,kLst_n27,kLst_n28,kLst_n29,kLst_n30,kLst_n31,kLst_n32,q_dct,q_idx,q_slice,q_rev,q_call,q_bi,q_append,q_kApp,q_pop,q_join,q_split,q_indexL,q_indexS,q_get,q_isinst,q_comp,q_evs0,q_evs,q_evBs0,q_evBs1,q_evBs2,q_evT0,q_evT1,q_range,q_enum,q_zip,q_src,q_tF,q_eF,q_bF,q_cF,evB_var,evB_ev,kNeg,kNot,kCmp1,kCmp2,kBin1,kBin2,kIsN,kIsB,kCh1,kCh2,kCh4,kIdx1,kIdx2,kSl1,kSl2,kSl3,kRev,kCall,kBi,kMt,kMt2,kIsi,kComp,kEs,kEs2,kB1,kTru,kRg,kEnum,kSrc,kZip,kZip2,kP1,kP2,kPar,kSeti2,kAug,kExpr,kRet,readV,peekV,app0,pop0,ownsL,ownsX,hasV,seti0,augW,aug0,List.getElem?_cons_zero,List.getElem?_cons_succ,List.set_cons_zero,List.set_cons_succ,R0.bind_ret,R0.bind_exc,bind_ite,ofV0_some,xsO_some,envO_some,tru0_bl,ite_ret,ite_retB,ite_fl,ite_bl,rt0_ret,rt0_next,rt0_exc,rt0_ite,callF_ret,callF_exc,opt0_some,for0_nil,for0k_next,for0k_cont,for0k_ret,lcR_some,lc0_nil,biV_len,biV_list,biV_tuple,biV_sorted,biV_all,biV_sum,biV_str,biV_min,biV_max,listV,tupleV,bO,not0,neg0,isN0_non,isN0_bl,isN0_int,isN0_str,isN0_tup,isN0_lst,isB0,part0_non,part0_int,part0_neg,part0_bi,part0_idx,part0_var,part0_bin,part0_call,part0_gc,itmV,tyM0,shareV_nil,shareV_cons,shAt_some,shO_none,shO_b,shO_sh,hide_nil,hide_cons,hideO_none,hideO_f,hideO_t,hideO_sh,hideO_ow,wipe0,asgV,asgVs,setP,isNil,okO_t,eqV_int,eqV_str,eqV_bl,eqV_nn,eqV_ns,eqV_sn,eqV_ni,eqV_in,eqV_is,eqV_si,Bool.and_true,Bool.true_and,Bool.and_false,Bool.false_and,Bool.and_self,Bool.not_true,Bool.not_false,Bool.true_or,Bool.false_or,Bool.or_true,Bool.or_false,if_true,if_false,Bool.false_eq_true,Bool.not_eq_true,reduceIte,Option.map_some,List.all_cons,List.all_nil,List.any_cons,List.any_nil,q_dctK,kDct,isinVT_int,isinVT_bool,isinVT_str,isinVT_list,isinVT_tuple,isinVT_cls,q_countL,q_try,try0_some,try0_none,try0_exc,ld_exc,retW_ret,retF_ret,retW_ite,retF_ite,goesOn_n,goesOn_c,true_and,and_true,implies_true,decide_true,decide_false,c_INFIX,c_AHEAD,c_WORDS, $ts,*] $l:location)
/-! ### errors, rows -/
def sValue : List Nat := [118, 97, 108, 117, 101]
def sInfix : List Nat := [105, 110, 102, 105, 120]
def sAhead : List Nat := [97, 104, 101, 97, 100]
inductive Kd where | value | infix_ | ahead | none
  deriving DecidableEq
def Kd.v : Kd → VV
  | .value => .str sValue
  | .infix_ => .str sInfix
  | .ahead => .str sAhead
  | .none => .non
/-- the kind of an item -/
def kind : VV → Kd
  | .int i => if 0 ≤ i ∧ i ≤ 3 then .value else .none
  | .str [c] => if c ∈ [97, 98, 99] then .infix_ else if c ∈ [112, 113] then .ahead else .none
  | _ => .none
def okV : VV → Bool
  | .dic _ => false
  | .drw => false
  | .exc _ => false
  | _ => true
/-- whether it can follow -/
def canF (ready : Bool) (k : Kd) : Bool := if ready = true then k == .infix_ else k == .value || k == .ahead
theorem kd_isN (d : Kd) : isN0 false d.v = .bl (decide (d = .none)) := by cases d <;> rfl
theorem kd_eqv (d : Kd) : eqV d.v (.str [118, 97, 108, 117, 101]) = some (d == .value) := by cases d <;> simp only [Kd.v, eqV_str, eqV_ns] <;> rfl
theorem kd_ld (d : Kd) : isLD d.v = false := by cases d <;> rfl
def rowGo : Bool → List VV → Bool
  | ready, [] => ready
  | ready, v :: vs => if kind v = .none ∨ canF ready (kind v) = false then false else rowGo (kind v == .value) vs
def isRowV : VV → Bool
  | .lst xs => decide (xs.length ≤ 40) && rowGo false xs
  | _ => false
/-! ### draws -/
theorem r_pick (k : Nat) (xs : List VV) (s : Drw) (h0 : 0 < xs.length) (h1 : xs.length < 1000) : ∃ v s', v ∈ xs ∧ C (k + 2) 10 [.drw, .lst xs] s = .ret v s' := by
  have hd := dVal_lt s (lim := (xs.length : Int)) (by omega)
  have hi : (dVal s xs.length).toNat < xs.length := by omega
  refine ⟨xs[(dVal s xs.length).toNat], dNext s xs.length, List.getElem_mem hi, ?_⟩
  rw [u__law_pick]
  simp_arith [isinV, idxV, inV, binV, addV, for0_name, sliceV, cmpV, flat0, eqF0, mtV, lenV, List.map_cons, List.map_nil, List.length_cons, List.length_nil, List.nil_append, List.cons_append, S__law_pick, r_draw k xs.length s (by omega) (by omega)]
  unfold at'
  rw [if_pos hd.1, List.getElem?_eq_getElem hi]
  simp_arith [isinV, idxV, inV, binV, addV, for0_name, sliceV, cmpV, flat0, eqF0, mtV, lenV, List.map_cons, List.map_nil, List.length_cons, List.length_nil, List.nil_append, List.cons_append]
/-- how many signs of each kind -/
def manys : List (Nat × Nat) := [(1, 0), (1, 1), (1, 2), (2, 0), (2, 0), (2, 1), (2, 1), (3, 0)]
def mV (m : Nat × Nat) : VV := .tup [.int m.1, .int m.2]
theorem r_many (k : Nat) (s : Drw) : ∃ m s', m ∈ manys ∧ C (k + 3) 12 [.drw] s = .ret (mV m) s' := by
  obtain ⟨v, s', hv, e⟩ := r_pick k (manys.map mV) s (by decide) (by decide)
  obtain ⟨m, hm, rfl⟩ := List.mem_map.mp hv
  refine ⟨m, s', hm, ?_⟩
  rw [u__law_many]
  have e : C (k + 2) 10 [.drw, .lst [.tup [.int 1, .int 0], .tup [.int 1, .int 1], .tup [.int 1, .int 2], .tup [.int 2, .int 0], .tup [.int 2, .int 0], .tup [.int 2, .int 1], .tup [.int 2, .int 1], .tup [.int 3, .int 0]]] s = .ret (mV m) s' := e
  simp_arith [isinV, idxV, inV, binV, addV, for0_name, sliceV, cmpV, flat0, eqF0, mtV, lenV, List.map_cons, List.map_nil, List.length_cons, List.length_nil, List.nil_append, List.cons_append, S__law_many, e]
def sgOf (m : Nat × Nat) : List Nat := [97, 98, 99].take m.1 ++ [112, 113].take m.2
theorem r_signs (k : Nat) (s : Drw) : ∀ m ∈ manys, C (k + 1) 13 [mV m] s = .ret (.str (sgOf m)) s :=
  List.map_inj_left.mp (by kernel_rfl)
/-! ### drawn tables -/
def wordsL : List (List Nat) := [[108, 101, 102, 116], [114, 105, 103, 104, 116], [110, 111, 110, 101]]
def ownS (sg : List Nat) (xs : List Int) (p : Int) : List Nat := ((List.range xs.length).filter fun i => xs.getD i 0 == p).map fun i => sg.getD i 0
def lvs (own : List Nat) : List (List VV) := if own = [] then [[]] else wordsL.map fun w => [.tup [.str w, .str own]]
def tabsOf (sg : List Nat) (xs : List Int) : List VV := (lvs (ownS sg xs 0)).flatMap fun a => (lvs (ownS sg xs 1)).flatMap fun b => (lvs (ownS sg xs 2)).map fun c => .tup (a ++ b ++ c)
def allVals : Nat → List (List Int)
  | 0 => [[]]
  | n + 1 => (allVals n).flatMap fun r => [0 :: r, 1 :: r, 2 :: r]
def tabs (sg : List Nat) : List VV := (allVals sg.length).flatMap (tabsOf sg)
theorem mem_allVals : ∀ xs : List Int, (∀ x ∈ xs, 0 ≤ x ∧ x < 3) → xs ∈ allVals xs.length
  | [], _ => List.mem_singleton.mpr rfl
  | x :: xs, h => by
    have ih := mem_allVals xs fun y hy => h y (List.mem_cons_of_mem _ hy)
    have hx := h x (List.mem_cons_self ..)
    refine List.mem_flatMap.mpr ⟨xs, ih, ?_⟩
    have : x = 0 ∨ x = 1 ∨ x = 2 := by omega
    rcases this with rfl | rfl | rfl <;> simp
abbrev tabBody : List S := [.asg (.name 5) (.mt .join (.str []) [.comp (.idx (.call 13 [.var 1]) (.var 7)) (.name 7) (.range [.bi .len [.var 2]]) [.cmp .eq (.idx (.var 2) (.var 7)) (.var 4)] [7]]), .ife (.cmp .ne (.var 5) (.str [])) [.expr (.mt .append (.var 3) [.tup [.call 10 [.var 0, .lst [.str [108, 101, 102, 116], .str [108, 101, 102, 116], .str [114, 105, 103, 104, 116], .str [114, 105, 103, 104, 116], .str [110, 111, 110, 101]]], .var 5]])] []]
theorem own_comp (k : Nat) {m : Nat × Nat} (hm : m ∈ manys) (vals : List Int) (hl : vals.length = (sgOf m).length) (p : Int) (s : Drw) (g3 : Option (Bool × VV)) (g5 : Option VV) :
    lc0 (.name 7) [some (false, .drw), some (false, mV m), some (false, .lst (vals.map .int)), g3, some (false, .int p), sh g5, none, none] (tF cs (C (k + 1)) [.cmp .eq (.idx (.var 2) (.var 7)) (.var 4)]) (eF cs (C (k + 1)) (.idx (.call 13 [.var 1]) (.var 7))) [] ((List.range vals.length).map natV) s
      = some ((ownS (sgOf m) vals p).map fun c => .str [c], s) := by
  have hlen : vals.length ≤ 5 := by
    rw [hl]
    unfold sgOf
    simp only [List.length_append, List.length_take]
    simp only [List.length_cons, List.length_nil]
    omega
  rw [lc0_pure (fun v => match v with | .int i => vals.getD i.toNat 0 == p | _ => false) (fun v => match v with | .int i => .str [(sgOf m).getD i.toNat 0] | _ => .non)]
  · unfold ownS
    rw [List.nil_append, List.filter_map, List.map_map, List.map_map]
    rfl
  · intro v hv
    obtain ⟨i, hi, rfl⟩ := List.mem_map.mp hv
    have hi := List.mem_range.mp hi
    have e1 : (vals.map VV.int)[i]? = some (.int (vals.getD i 0)) := by
      rw [List.getElem?_map, List.getD_eq_getElem?_getD, List.getElem?_eq_getElem hi]
      rfl
    have e2 : (sgOf m)[i]? = some ((sgOf m).getD i 0) := by
      rw [List.getD_eq_getElem?_getD, List.getElem?_eq_getElem (by omega)]
      rfl
    refine ⟨_, [some (false, .drw), some (false, mV m), some (false, .lst (vals.map .int)), g3, some (false, .int p), sh g5, none, some (false, natV i)], asgV_name, ?_, fun _ => ⟨[some (false, .drw), some (false, mV m), some (false, .lst (vals.map .int)), g3, some (false, .int p), sh g5, none, some (false, natV i)], ?_⟩⟩
    · simp_arith [isinV, idxV, inV, binV, addV, for0_name, sliceV, cmpV, flat0, eqF0, mtV, lenV, List.map_cons, List.map_nil, List.length_cons, List.length_nil, List.nil_append, List.cons_append, natV, at'_nat, e1, Int.toNat_natCast]
      congr 1
    · simp_arith [isinV, idxV, inV, binV, addV, for0_name, sliceV, cmpV, flat0, eqF0, mtV, lenV, List.map_cons, List.map_nil, List.length_cons, List.length_nil, List.nil_append, List.cons_append, natV, r_signs k s m hm, at'_nat, e2, Int.toNat_natCast]
  · simp only [List.length_nil, List.length_map, List.length_range, SL]
    omega
theorem table_step (k : Nat) {m : Nat × Nat} (hm : m ∈ manys) (vals : List Int) (hl : vals.length = (sgOf m).length) (p : Int) (o : Bool) (acc : List VV) (ha : acc.length ≤ 5) (g5 : Option VV) (s : Drw) :
    ∃ l s' g5', l ∈ lvs (ownS (sgOf m) vals p) ∧ x0s cs (C (k + 3)) WF tabBody [some (false, .drw), some (false, mV m), some (o, .lst (vals.map .int)), some (true, .lst acc), some (false, .int p), sh g5, none, none] s
      = .ret .next [some (false, .drw), some (false, mV m), some (false, .lst (vals.map .int)), some (true, .lst (acc ++ l)), some (false, .int p), sh g5', none, none] s' := by
  have hlen : vals.length ≤ 5 := by
    rw [hl]
    unfold sgOf
    simp only [List.length_append, List.length_take]
    simp only [List.length_cons, List.length_nil]
    omega
  have ej : joinV [] (.lst ((ownS (sgOf m) vals p).map fun c => VV.str [c])) = some (.str (ownS (sgOf m) vals p)) := by
    rw [joinV_nil (fun c => [c])]
    · congr 2
      generalize ownS (sgOf m) vals p = l
      induction l with
      | nil => rfl
      | cons a l ih => rw [List.map_cons, List.flatten_cons, ih]; rfl
    · have : (ownS (sgOf m) vals p).length ≤ 5 := by
        unfold ownS
        rw [List.length_map]
        refine Nat.le_trans (List.length_filter_le _ _) ?_
        rw [List.length_range]
        exact hlen
      generalize ownS (sgOf m) vals p = l at this ⊢
      have e : ∀ l : List Nat, ((l.map fun c => [c]).map List.length).sum = l.length := fun l => by
        induction l with
        | nil => rfl
        | cons a l ih => simp only [List.map_cons, List.sum_cons, ih, List.length_cons, List.length_nil]; omega
      rw [e]
      unfold SL
      omega
  have er : ∀ env s, xsO (rangeV [.int (vals.map VV.int).length]) env s = .ret ((List.range vals.length).map natV) env s := fun env s => by
    rw [List.length_map]
    exact xsO_range (by omega)
  have oc : ∀ (g3 : Option (Bool × VV)) (g5 : Option VV) (s : Drw), lc0 (.name 7) [some (false, .drw), some (false, mV m), some (false, .lst (vals.map .int)), g3, some (false, .int p), sh g5, none, none] (tF cs (C (k + 3)) [.cmp .eq (.idx (.var 2) (.var 7)) (.var 4)]) (eF cs (C (k + 3)) (.idx (.call 13 [.var 1]) (.var 7))) [] ((List.range vals.length).map natV) s
      = some ((ownS (sgOf m) vals p).map fun c => .str [c], s) := fun g3 g5 s => own_comp (k + 2) hm vals hl p s g3 g5
  obtain ⟨w, s', hw, ep⟩ := r_pick (k + 1) [.str [108, 101, 102, 116], .str [108, 101, 102, 116], .str [114, 105, 103, 104, 116], .str [114, 105, 103, 104, 116], .str [110, 111, 110, 101]] s (by decide) (by decide)
  by_cases hn : ownS (sgOf m) vals p = []
  · refine ⟨[], s, some (.str (ownS (sgOf m) vals p)), by unfold lvs; rw [if_pos hn]; exact List.mem_singleton.mpr rfl, ?_⟩
    cases o <;> simp_arith [isinV, idxV, inV, binV, addV, for0_name, sliceV, cmpV, flat0, eqF0, mtV, lenV, List.map_cons, List.map_nil, List.length_cons, List.length_nil, List.nil_append, List.cons_append, tabBody, er, oc, ej, hn, decide_true, List.append_nil, sh_some, joinV_0]
  · refine ⟨[.tup [w, .str (ownS (sgOf m) vals p)]], s', some (.str (ownS (sgOf m) vals p)), ?_, ?_⟩
    · unfold lvs
      rw [if_neg hn]
      simp only [List.mem_cons, List.not_mem_nil, or_false] at hw
      simp only [wordsL, List.map_cons, List.map_nil, List.mem_cons, List.not_mem_nil, or_false]
      rcases hw with rfl | rfl | rfl | rfl | rfl <;> simp
    · have hac : acc.length < SL := by unfold SL; omega
      have hac' : le' (acc.length + 1) SL = true := le_t hac
      cases o <;> simp_arith [isinV, idxV, inV, binV, addV, for0_name, sliceV, cmpV, flat0, eqF0, mtV, lenV, List.map_cons, List.map_nil, List.length_cons, List.length_nil, List.nil_append, List.cons_append, tabBody, er, oc, ej, hn, decide_false, ep, hac', List.append_nil, sh_some]
theorem ints_of {us : List VV} (h : ∀ u ∈ us, ∃ i : Int, u = .int i ∧ 0 ≤ i ∧ i < 3) : ∃ vals : List Int, us = vals.map .int ∧ ∀ x ∈ vals, 0 ≤ x ∧ x < 3 := by
  induction us with
  | nil => exact ⟨[], rfl, fun x hx => absurd hx List.not_mem_nil⟩
  | cons u us ih =>
    obtain ⟨i, rfl, hi⟩ := h u (List.mem_cons_self ..)
    obtain ⟨vals, rfl, hv⟩ := ih fun v hv => h v (List.mem_cons_of_mem _ hv)
    exact ⟨i :: vals, rfl, fun x hx => by rcases List.mem_cons.mp hx with rfl | hx; exact hi; exact hv x hx⟩
theorem r_table (k : Nat) (s : Drw) : ∀ m ∈ manys, ∃ t s', t ∈ tabs (sgOf m) ∧ C (k + 4) 14 [.drw, mV m] s = .ret t s' := by
  intro m hm
  rw [u__law_table]
  have hlen : (sgOf m).length ≤ 5 := by
    unfold sgOf
    simp only [List.length_append, List.length_take]
    simp only [List.length_cons, List.length_nil]
    omega
  obtain ⟨us, s1, e1, l1, p1, _⟩ := lc0_ex (fun _ u => ∃ i : Int, u = .int i ∧ 0 ≤ i ∧ i < 3) ((sgOf m).map fun c => .str [c]) [] s (tg := .name 6) (envb := [some (false, .drw), some (false, mV m), none, none, none, none, none, none]) (tst := tF cs (C (k + 3)) []) (elt := eF cs (C (k + 3)) (.call 9 [.var 0, .int 3]))
    (fun v hv s => ⟨_, [some (false, .drw), some (false, mV m), none, none, none, none, some (false, v), none], asgV_name, by simp_arith [isinV, idxV, inV, binV, addV, for0_name, sliceV, cmpV, flat0, eqF0, mtV, lenV, List.map_cons, List.map_nil, List.length_cons, List.length_nil, List.nil_append, List.cons_append], .int (dVal s 3), [some (false, .drw), some (false, mV m), none, none, none, none, some (false, v), none], dNext s 3, by simp_arith [isinV, idxV, inV, binV, addV, for0_name, sliceV, cmpV, flat0, eqF0, mtV, lenV, List.map_cons, List.map_nil, List.length_cons, List.length_nil, List.nil_append, List.cons_append, r_draw (k + 2) 3 s (by decide) (by decide)], _, rfl, dVal_lt s (by decide)⟩)
    (by rw [List.length_nil, List.length_map]; unfold SL; omega)
  obtain ⟨vals, rfl, hv⟩ := ints_of fun u hu => by obtain ⟨_, _, q⟩ := p1 u hu; exact q
  have hl : vals.length = (sgOf m).length := by rw [List.length_map, List.length_map] at l1; exact l1
  obtain ⟨la, s2, g2, ma, ea⟩ := table_step k hm vals hl 0 true [] (by decide) none s1
  have hla : la.length ≤ 1 := by
    unfold lvs at ma
    split at ma
    · obtain rfl := List.mem_singleton.mp ma; decide
    · obtain ⟨w, _, rfl⟩ := List.mem_map.mp ma; exact Nat.le_refl _
  obtain ⟨lb, s3, g3, mb, eb⟩ := table_step k hm vals hl 1 false ([] ++ la) (by rw [List.nil_append]; omega) g2 s2
  have hlb : lb.length ≤ 1 := by
    unfold lvs at mb
    split at mb
    · obtain rfl := List.mem_singleton.mp mb; decide
    · obtain ⟨w, _, rfl⟩ := List.mem_map.mp mb; exact Nat.le_refl _
  obtain ⟨lc, s4, g4, mc, ec⟩ := table_step k hm vals hl 2 false ([] ++ la ++ lb) (by rw [List.nil_append, List.length_append]; omega) g3 s3
  refine ⟨.tup (la ++ lb ++ lc), s4, ?_, ?_⟩
  · unfold tabs
    refine List.mem_flatMap.mpr ⟨vals, ?_, ?_⟩
    · rw [← hl]; exact mem_allVals vals hv
    · unfold tabsOf
      exact List.mem_flatMap.mpr ⟨la, ma, List.mem_flatMap.mpr ⟨lb, mb, List.mem_map.mpr ⟨lc, mc, rfl⟩⟩⟩
  · have er : rangeV [.int 3] = some [.int 0, .int 1, .int 2] := rfl
    simp_arith [isinV, idxV, inV, binV, addV, for0_name, sliceV, cmpV, flat0, eqF0, mtV, lenV, List.map_cons, List.map_nil, List.length_cons, List.length_nil, List.nil_append, List.cons_append, S__law_table, r_signs (k + 2) s m hm, e1]
    rw [er, xsO_some, R0.bind_ret, q_kFor, for0_name, q_bF]
    have ea : x0s cs (C (k + 3)) WF tabBody ([some (false, .drw), some (false, mV m), some (true, .lst (vals.map .int)), some (true, .lst []), none, none, none, none].set 4 (some (false, .int 0))) s1 = _ := ea
    rw [ea, R0.bind_ret, for0k_next, for0_name, q_bF]
    have eb : x0s cs (C (k + 3)) WF tabBody ([some (false, .drw), some (false, mV m), some (false, .lst (vals.map .int)), some (true, .lst ([] ++ la)), some (false, .int 0), sh g2, none, none].set 4 (some (false, .int 1))) s2 = _ := eb
    rw [eb, R0.bind_ret, for0k_next, for0_name, q_bF]
    have ec : x0s cs (C (k + 3)) WF tabBody ([some (false, .drw), some (false, mV m), some (false, .lst (vals.map .int)), some (true, .lst ([] ++ la ++ lb)), some (false, .int 1), sh g3, none, none].set 4 (some (false, .int 2))) s3 = _ := ec
    rw [ec, R0.bind_ret, for0k_next]
    simp_arith [isinV, idxV, inV, binV, addV, for0_name, sliceV, cmpV, flat0, eqF0, mtV, lenV, List.map_cons, List.map_nil, List.length_cons, List.length_nil, List.nil_append, List.cons_append]
theorem tabs_signs (k : Nat) (s : Drw) : ∀ m ∈ manys, ∀ t ∈ tabs (sgOf m), C (k + 1) 2 [t] s = .ret (.str (sgOf m)) s := by
  intro m hm
  simp only [manys, List.mem_cons, List.not_mem_nil, or_false] at hm
  rcases hm with rfl | rfl | rfl | rfl | rfl | rfl | rfl | rfl
  all_goals exact List.map_inj_left.mp (by kernel_rfl)
theorem tabs_is (k : Nat) (s : Drw) : ∀ m ∈ manys, ∀ t ∈ tabs (sgOf m), C (k + 3) 3 [t] s = .ret (.bl true) s := by
  intro m hm
  simp only [manys, List.mem_cons, List.not_mem_nil, or_false] at hm
  rcases hm with rfl | rfl | rfl | rfl | rfl | rfl | rfl | rfl
  all_goals exact List.map_inj_left.mp (by kernel_rfl)
theorem tabs_check (k : Nat) (s : Drw) {m : Nat × Nat} (hm : m ∈ manys) {t : VV} (ht : t ∈ tabs (sgOf m)) : C (k + 4) 4 [t] s = .ret .non s := by
  rw [u_check_table]
  simp_arith [isinV, idxV, inV, binV, addV, for0_name, sliceV, cmpV, flat0, eqF0, mtV, lenV, List.map_cons, List.map_nil, List.length_cons, List.length_nil, List.nil_append, List.cons_append, S_check_table, tabs_is k s m hm t ht]
/-! ### texts cut and joined -/
theorem spl_ne (S : List Nat) : ∀ (l : List Nat) (k : Nat) (acc : List Nat), TL.spl S k acc l ≠ []
  | [], k, acc => by rw [TL.spl_nil]; exact fun z => nomatch z
  | c :: r, 0, acc => by
    show (if TL.pre S (c :: r) = true then acc :: TL.spl S (S.length - 1) [] r else TL.spl S 0 (acc ++ [c]) r) ≠ []
    split
    · exact fun z => nomatch z
    · exact spl_ne S r 0 _
  | c :: r, k + 1, acc => spl_ne S r k acc
theorem spl_len (S : List Nat) : ∀ (l : List Nat) (k : Nat) (acc : List Nat), (TL.spl S k acc l).length ≤ l.length + 1
  | [], k, acc => by rw [TL.spl_nil]; exact Nat.le_refl _
  | c :: r, 0, acc => by
    show (if TL.pre S (c :: r) = true then acc :: TL.spl S (S.length - 1) [] r else TL.spl S 0 (acc ++ [c]) r).length ≤ _
    split
    · rw [List.length_cons, List.length_cons]; have := spl_len S r (S.length - 1) []; omega
    · rw [List.length_cons]; have := spl_len S r 0 (acc ++ [c]); omega
  | c :: r, k + 1, acc => by
    show (TL.spl S k acc r).length ≤ _
    rw [List.length_cons]; have := spl_len S r k acc; omega
theorem spl_piece (S : List Nat) : ∀ (l : List Nat) (k : Nat) (acc : List Nat) (p : List Nat), p ∈ TL.spl S k acc l → p.length ≤ acc.length + l.length
  | [], k, acc, p, h => by rw [TL.spl_nil] at h; rw [List.mem_singleton.mp h]; omega
  | c :: r, 0, acc, p, h => by
    have h : p ∈ (if TL.pre S (c :: r) = true then acc :: TL.spl S (S.length - 1) [] r else TL.spl S 0 (acc ++ [c]) r) := h
    rw [List.length_cons]
    split at h
    · rcases List.mem_cons.mp h with rfl | h
      · omega
      · have := spl_piece S r (S.length - 1) [] p h; rw [List.length_nil] at this; omega
    · have := spl_piece S r 0 (acc ++ [c]) p h; rw [List.length_append, List.length_singleton] at this; omega
  | c :: r, k + 1, acc, p, h => by
    have := spl_piece S r k acc p h
    rw [List.length_cons]; omega
theorem joinS_cons (S p : List Nat) {ps : List (List Nat)} (h : ps ≠ []) : joinS S (p :: ps) = p ++ (S ++ joinS S ps) := by
  cases ps with
  | nil => exact absurd rfl h
  | cons q r => rfl
theorem spl_skip (S : List Nat) : ∀ (r : List Nat) (k : Nat), k ≤ r.length → TL.spl S k [] r = TL.spl S 0 [] (r.drop k)
  | r, 0, _ => rfl
  | [], k + 1, h => absurd h (Nat.not_succ_le_zero _)
  | c :: r, k + 1, h => by
    show TL.spl S k [] r = _
    rw [spl_skip S r k (Nat.le_of_succ_le_succ h)]
    rfl
theorem join_spl {S : List Nat} (hS : S ≠ []) : ∀ (n : Nat) (l acc : List Nat), l.length ≤ n → joinS S (TL.spl S 0 acc l) = acc ++ l
  | n, [], acc, _ => by rw [TL.spl_nil, List.append_nil]; rfl
  | 0, c :: r, acc, h => absurd h (Nat.not_succ_le_zero _)
  | n + 1, c :: r, acc, h => by
    rw [List.length_cons] at h
    show joinS S (if TL.pre S (c :: r) = true then acc :: TL.spl S (S.length - 1) [] r else TL.spl S 0 (acc ++ [c]) r) = _
    split
    · rename_i hp
      have hp : (c :: r).take S.length = S := eq_of_beq hp
      have hl : 0 < S.length := List.length_pos_iff.mpr hS
      have hl2 : S.length ≤ (c :: r).length := by
        have := congrArg List.length hp
        rw [List.length_take] at this
        omega
      have hk : S.length - 1 ≤ r.length := by rw [List.length_cons] at hl2; omega
      rw [joinS_cons S acc (spl_ne S r _ _), spl_skip S r _ hk, join_spl hS n _ [] (by rw [List.length_drop]; omega), List.nil_append]
      have e : c :: r = S ++ r.drop (S.length - 1) := by
        have := List.take_append_drop S.length (c :: r)
        rw [hp] at this
        rw [← this]
        congr 1
        obtain ⟨m, hm⟩ : ∃ m, S.length = m + 1 := ⟨S.length - 1, by omega⟩
        rw [hm]
        rfl
      rw [e]
    · rw [join_spl hS n r (acc ++ [c]) (by omega), List.append_assoc]
      rfl
theorem strs0_map : ∀ xs : List (List Nat), strs0 (xs.map .str) = some xs
  | [] => rfl
  | x :: xs => by show (strs0 (xs.map .str)).map (x :: ·) = _; rw [strs0_map xs]; rfl
theorem sumN_le {n : Nat} : ∀ (xs : List (List Nat)), (∀ x ∈ xs, x.length ≤ n) → sumN (xs.map List.length) ≤ xs.length * n
  | [], _ => Nat.zero_le _
  | x :: xs, h => by
    have h1 := h x (List.mem_cons_self ..)
    have h2 := sumN_le xs fun y hy => h y (List.mem_cons_of_mem _ hy)
    rw [List.map_cons, List.length_cons, Nat.add_mul, Nat.one_mul]
    show x.length + sumN (xs.map List.length) ≤ _
    omega
theorem joinV_strs {S : List Nat} {xs : List (List Nat)} (h : sumN (xs.map List.length) + xs.length * S.length ≤ SL) : mtV .join (.str S) [.lst (xs.map .str)] = some (.str (joinS S xs)) := by
  show (match strs0 (xs.map .str) with | some ss => okO (le' (sumN (ss.map List.length) + ss.length * S.length) SL) (VV.str (joinS S ss)) | none => none) = _
  rw [strs0_map]
  show okO _ _ = _
  rw [all_le h]
  rfl
theorem insS_len (x : List Nat) : ∀ l, (insS x l).length = l.length + 1
  | [] => rfl
  | y :: r => by
    unfold insS
    split
    · rw [List.length_cons, List.length_cons, insS_len x r]
    · rfl
theorem sortS_len : ∀ l, (sortS l).length = l.length
  | [] => rfl
  | x :: r => by show (insS x (sortS r)).length = _; rw [insS_len, sortS_len r]; rfl
theorem insS_mem (x : List Nat) : ∀ (l : List (List Nat)) (y : List Nat), y ∈ insS x l → y = x ∨ y ∈ l
  | [], y, h => .inl (List.mem_singleton.mp h)
  | z :: r, y, h => by
    unfold insS at h
    split at h
    · rcases List.mem_cons.mp h with rfl | h
      · exact .inr (List.mem_cons_self ..)
      · rcases insS_mem x r y h with h | h
        · exact .inl h
        · exact .inr (List.mem_cons_of_mem _ h)
    · rcases List.mem_cons.mp h with rfl | h
      · exact .inl rfl
      · exact .inr h
theorem sortS_mem : ∀ (l : List (List Nat)) (y : List Nat), y ∈ sortS l → y ∈ l
  | [], y, h => h
  | x :: r, y, h => by
    rcases insS_mem x _ y h with rfl | h
    · exact List.mem_cons_self ..
    · exact List.mem_cons_of_mem _ (sortS_mem r y h)
theorem joinS_nil_len : ∀ (xs : List (List Nat)), (joinS [] xs).length = sumN (xs.map List.length)
  | [] => rfl
  | [p] => by show p.length = p.length + 0; rfl
  | p :: q :: r => by
    have ih := joinS_nil_len (q :: r)
    show (p ++ ([] ++ joinS [] (q :: r))).length = p.length + sumN ((q :: r).map List.length)
    rw [List.nil_append, List.length_append, ih]
def choiceB (x : List Nat) : Bool := decide (1 ≤ (((x.filter fun c => decide (c ∈ [97, 98, 99])).length : Nat) : Int)) && (decide ((x.length : Int) - (((x.filter fun c => decide (c ∈ [97, 98, 99])).length : Nat) : Int) ≤ 2) && (decide ((((x.filter fun c => decide (c ∈ [97, 98, 99])).length : Nat) : Int) + ((x.length : Int) - (((x.filter fun c => decide (c ∈ [97, 98, 99])).length : Nat) : Int)) ≤ 3) && decide (x = cut [97, 98, 99] none (some (((x.filter fun c => decide (c ∈ [97, 98, 99])).length : Nat) : Int)) ++ cut [112, 113] none (some ((x.length : Int) - (((x.filter fun c => decide (c ∈ [97, 98, 99])).length : Nat) : Int))))))
theorem r_is_choice_any (k : Nat) (x : List Nat) (hx : x.length ≤ 1000000) (s : Drw) : C (k + 1) 0 [.str x] s = .ret (.bl (choiceB x)) s := by
  rw [u_is_choice]
  simp_arith [isinV, idxV, inV, binV, addV, for0_name, sliceV, cmpV, flat0, eqF0, mtV, lenV, List.map_cons, List.map_nil, List.length_cons, List.length_nil, List.nil_append, List.cons_append, S_is_choice]
  generalize e : lc0 _ _ _ _ _ _ _ = T
  refine lc_use e (fun v => match v with | .str [c] => decide (c ∈ [97, 98, 99]) | _ => false) id ?_ ?_ ?_
  · rw [List.length_nil, List.length_map]; unfold SL; omega
  · intro v hv
    obtain ⟨c, hc, rfl⟩ := List.mem_map.mp hv
    refine ⟨_, asgV_name, ?_⟩
    simp_arith [isinV, idxV, inV, binV, addV, for0_name, sliceV, cmpV, flat0, eqF0, mtV, lenV, List.map_cons, List.map_nil, List.length_cons, List.length_nil, List.nil_append, List.cons_append, id]
  · intro hT
    rw [hT]
    have hn : (((x.map fun c => VV.str [c]).filter fun v => match v with | .str [c] => decide (c ∈ [97, 98, 99]) | _ => false).map id).length = (x.filter fun c => decide (c ∈ [97, 98, 99])).length := by
      rw [List.length_map, List.filter_map, List.length_map]
      rfl
    have hl : ∀ a b, le' ((cut [97, 98, 99] none a).length + (cut [112, 113] none b).length) SL = true := fun a b => all_le (by have := cut_len [97, 98, 99] none a; have := cut_len [112, 113] none b; simp only [List.length_cons, List.length_nil] at *; unfold SL; omega)
    simp_arith [isinV, idxV, inV, binV, addV, for0_name, sliceV, cmpV, flat0, eqF0, mtV, lenV, List.map_cons, List.map_nil, List.length_cons, List.length_nil, List.nil_append, List.cons_append, hl, hn]
    unfold choiceB
    generalize ((x.filter fun c => decide (c ∈ [97, 98, 99])).length : Int) = n
    cases decide (1 ≤ n) <;> cases decide ((x.length : Int) - n ≤ 2) <;> cases decide (n + ((x.length : Int) - n) ≤ 3) <;> simp_arith [isinV, idxV, inV, binV, addV, for0_name, sliceV, cmpV, flat0, eqF0, mtV, lenV, List.map_cons, List.map_nil, List.length_cons, List.length_nil, List.nil_append, List.cons_append]
def ltB (g : List Nat) : Bool := (zipV (g.map fun c => VV.str [c]) ((g.drop 1).map fun c => VV.str [c])).all fun v => match v with | .tup [.str [a], .str [b]] => ltS [a] [b] | _ => false
def levelB (ws : List (List Nat)) : Bool := match ws with
  | [w, g] => ([108, 101, 102, 116] == w || ([114, 105, 103, 104, 116] == w || [110, 111, 110, 101] == w)) && (!decide (g = []) && ((g.all fun c => decide (c ∈ [97, 98, 99, 112, 113])) && ltB g))
  | _ => false
theorem levelB_two {ws : List (List Nat)} (h : levelB ws = true) : ws.length = 2 := by
  match ws, h with
  | [_, _], _ => rfl
theorem c2T : decide (((0 + 1 + 1 : Nat) : Int) = 2) = true := rfl
theorem r_is_level_any (k : Nat) (ws : List (List Nat)) (h : ∀ w ∈ ws, w.length ≤ 1000000) (hl : ws.length ≤ 1000000) (s : Drw) : C (k + 1) 1 [.tup (ws.map .str)] s = .ret (.bl (levelB ws)) s := by
  rw [u_is_level]
  by_cases h2 : ws.length = 2
  · obtain ⟨w, g, rfl⟩ : ∃ w g, ws = [w, g] := match ws, h2 with | [w, g], _ => ⟨w, g, rfl⟩
    have hg := h g (by simp)
    have a2 : allV (.lst [.bl true, .bl true]) = some (.bl true) := rfl
    have i0 : idxV (.tup [.str w, .str g]) (.int 0) = some (.str w) := rfl
    have i1 : idxV (.tup [.str w, .str g]) (.int 1) = some (.str g) := rfl
    simp_arith [isinV, inV, binV, addV, for0_name, sliceV, cmpV, flat0, eqF0, mtV, lenV, List.map_cons, List.map_nil, List.length_cons, List.length_nil, List.nil_append, List.cons_append, S_is_level, c2T]
    generalize e : lc0 _ _ _ _ _ _ _ = T
    refine lc_useM e (fun _ => .bl true) (by simp only [List.length_cons, List.length_nil]; unfold SL; omega) (fun v hv => ⟨_, asgV_name, ?_⟩) fun hT => ?_
    · simp only [List.mem_cons, List.not_mem_nil, or_false] at hv
      rcases hv with rfl | rfl <;> simp_arith [isinV, idxV, inV, binV, addV, for0_name, sliceV, cmpV, flat0, eqF0, mtV, lenV, List.map_cons, List.map_nil, List.length_cons, List.length_nil, List.nil_append, List.cons_append]
    · rw [hT]
      simp_arith [isinV, inV, binV, addV, for0_name, sliceV, cmpV, flat0, eqF0, mtV, lenV, List.map_cons, List.map_nil, List.length_cons, List.length_nil, List.nil_append, List.cons_append, a2, i0, i1]
      unfold levelB
      cases hw : ([108, 101, 102, 116] == w || ([114, 105, 103, 104, 116] == w || [110, 111, 110, 101] == w)) with
      | false => simp_arith [isinV, idxV, inV, binV, addV, for0_name, sliceV, cmpV, flat0, eqF0, mtV, lenV, List.map_cons, List.map_nil, List.length_cons, List.length_nil, List.nil_append, List.cons_append, hw]
      | true =>
        cases hg0 : decide (g = []) with
        | true => simp_arith [isinV, idxV, inV, binV, addV, for0_name, sliceV, cmpV, flat0, eqF0, mtV, lenV, List.map_cons, List.map_nil, List.length_cons, List.length_nil, List.nil_append, List.cons_append, hw, hg0]
        | false =>
          simp_arith [isinV, inV, binV, addV, for0_name, sliceV, cmpV, flat0, eqF0, mtV, lenV, List.map_cons, List.map_nil, List.length_cons, List.length_nil, List.nil_append, List.cons_append, i1]
          generalize e : lc0 _ _ _ _ _ _ _ = T2
          refine lc_useM e (fun v => match v with | .str [c] => .bl (decide (c ∈ [97, 98, 99, 112, 113])) | _ => .non) (by rw [List.length_nil, List.length_map]; unfold SL; omega) (fun v hv => ⟨_, asgV_name, ?_⟩) fun hT => ?_
          · obtain ⟨c, hc, rfl⟩ := List.mem_map.mp hv
            have hz : le' (0 + 1 + 1 + 1 + (0 + 1 + 1)) SL = true := rfl
            simp_arith [isinV, inV, binV, addV, for0_name, sliceV, cmpV, flat0, eqF0, mtV, lenV, List.map_cons, List.map_nil, List.length_cons, List.length_nil, List.nil_append, List.cons_append, hz]
          · rw [hT]
            have hm : (g.map fun c => VV.str [c]).map (fun v => match v with | .str [c] => VV.bl (decide (c ∈ [97, 98, 99, 112, 113])) | _ => .non) = g.map fun c => VV.bl (decide (c ∈ [97, 98, 99, 112, 113])) := by
              rw [List.map_map]; rfl
            have ha := allV_map (fun c : Nat => decide (c ∈ [97, 98, 99, 112, 113])) g
            cases hga : g.all fun c => decide (c ∈ [97, 98, 99, 112, 113]) with
            | false =>
              rw [hga] at ha
              simp_arith [isinV, inV, binV, addV, for0_name, sliceV, cmpV, flat0, eqF0, mtV, lenV, List.map_cons, List.map_nil, List.length_cons, List.length_nil, List.nil_append, List.cons_append, hm, ha, hw, hg0, hga]
            | true =>
              rw [hga] at ha
              have sl : sliceV (.str g) (some 1) none = some (.str (g.drop 1)) := by
                show some (VV.str (cut g (some 1) none)) = _
                congr 2
                unfold cut
                have e1 : ixS g.length 0 (some 1) = min 1 g.length := rfl
                have e2 : ixS g.length g.length none = g.length := rfl
                rw [e1, e2]
                cases g with
                | nil => rfl
                | cons c g =>
                  have : min 1 (c :: g).length = 1 := by rw [List.length_cons]; omega
                  rw [this]
                  exact List.take_of_length_le (by rw [List.length_drop]; exact Nat.le_refl _)
              simp_arith [isinV, inV, binV, addV, for0_name, cmpV, flat0, eqF0, mtV, lenV, List.map_cons, List.map_nil, List.length_cons, List.length_nil, List.nil_append, List.cons_append, hm, ha, i1, sl]
              generalize e : lc0 _ _ _ _ _ _ _ = T3
              refine lc_useM e (fun v => match v with | .tup [.str [a], .str [b]] => .bl (ltS [a] [b]) | _ => .bl false) ?_ (fun v hv => ?_) fun hT => ?_
              · rw [List.length_nil, zipV_len, List.length_map, List.length_map]; unfold SL; omega
              · obtain ⟨i, hi⟩ := List.getElem?_of_mem hv
                obtain ⟨x, y, h1, h2, rfl⟩ := zipV_get _ _ _ _ hi
                obtain ⟨a, _, rfl⟩ := List.mem_map.mp (List.mem_of_getElem? h1)
                obtain ⟨b, _, rfl⟩ := List.mem_map.mp (List.mem_of_getElem? h2)
                refine ⟨_, rfl, ?_⟩
                simp_arith [isinV, idxV, inV, binV, addV, for0_name, sliceV, cmpV, flat0, eqF0, mtV, lenV, List.map_cons, List.map_nil, List.length_cons, List.length_nil, List.nil_append, List.cons_append]
              · rw [hT]
                unfold ltB
                generalize zipV _ _ = Z
                have hb : (Z.map (fun v => match v with | .tup [.str [a], .str [b]] => VV.bl (ltS [a] [b]) | _ => .bl false)) = Z.map fun v => VV.bl (match v with | .tup [.str [a], .str [b]] => ltS [a] [b] | _ => false) := by
                  refine List.map_congr_left fun v _ => ?_
                  split <;> rfl
                have ha2 := allV_map (fun v => match v with | .tup [.str [a], .str [b]] => ltS [a] [b] | _ => false) Z
                rw [hb]
                simp_arith [isinV, idxV, inV, binV, addV, for0_name, sliceV, cmpV, flat0, eqF0, mtV, lenV, List.map_cons, List.map_nil, List.length_cons, List.length_nil, List.nil_append, List.cons_append, ha2, hw, hg0, hga]
  · have hd : decide (((ws.map VV.str).length : Int) = 2) = false := decide_eq_false (by rw [List.length_map]; omega)
    have hf : levelB ws = false := by
      cases hb : levelB ws with
      | false => rfl
      | true => exact absurd (levelB_two hb) h2
    rw [hf]
    simp_arith [isinV, idxV, inV, binV, addV, for0_name, sliceV, cmpV, flat0, eqF0, mtV, lenV, List.map_cons, List.map_nil, List.length_cons, List.length_nil, List.nil_append, List.cons_append, S_is_level, hd]
theorem isN0_exc {n : Bool} {c : Nat} : isN0 n (.exc c) = .bl n := by rfl
def tuV (ws : List (List Nat)) : VV := .tup (ws.map .str)
def tbV (ps : List (List (List Nat))) : VV := .tup (ps.map tuV)
def sgsB (ps : List (List (List Nat))) : List Nat := joinS [] (sortS (signsS (joinS [] (ps.map fun ws => ws.getD 1 []))))
theorem r_all_signs_any (k : Nat) (ps : List (List (List Nat))) (hp : ps.length ≤ 3) (h : ∀ ws ∈ ps, ws.length = 2 ∧ ∀ w ∈ ws, w.length ≤ 100000) (s : Drw) : (sgsB ps).length ≤ 1000000 ∧ C (k + 1) 2 [tbV ps] s = .ret (.str (sgsB ps)) s := by
  unfold sgsB
  have hd : ∀ ws ∈ ps, ∃ a b, ws = [a, b] ∧ b.length ≤ 100000 := fun ws hw => by
    obtain ⟨h1, h2⟩ := h ws hw
    match ws, h1, h2 with
    | [a, b], _, h2 => exact ⟨a, b, rfl, h2 b (by simp)⟩
  have lb : ∀ xs : List (List Nat), xs.length ≤ 3 → (∀ x ∈ xs, x.length ≤ 100000) → sumN (xs.map List.length) ≤ 300000 := fun xs h1 h2 => Nat.le_trans (sumN_le xs h2) (by omega)
  have l1 : sumN ((ps.map fun ws => ws.getD 1 []).map List.length) ≤ 300000 := lb _ (by rw [List.length_map]; exact hp) fun x hx => by
    obtain ⟨ws, hw, rfl⟩ := List.mem_map.mp hx
    obtain ⟨a, b, rfl, hb⟩ := hd ws hw
    exact hb
  have j1 := joinV_strs (S := []) (xs := ps.map fun ws => ws.getD 1 []) (by rw [List.length_nil, Nat.mul_zero]; unfold SL; omega)
  have xl := joinS_nil_len (ps.map fun ws => ws.getD 1 [])
  generalize joinS [] (ps.map fun ws => ws.getD 1 []) = x at *
  have hx : x.length ≤ 300000 := by omega
  have sx : sortedV (.str x) = some (.lst ((sortS (signsS x)).map .str)) := rfl
  have l2 : sumN ((sortS (signsS x)).map List.length) ≤ 300000 := Nat.le_trans (sumN_le (n := 1) _ fun y hy => by
    obtain ⟨c, _, rfl⟩ := List.mem_map.mp (sortS_mem _ y hy)
    exact Nat.le_refl _) (by rw [sortS_len]; show (x.map _).length * 1 ≤ _; rw [List.length_map]; omega)
  have j2 := joinV_strs (S := []) (xs := sortS (signsS x)) (by rw [List.length_nil, Nat.mul_zero]; unfold SL; omega)
  have yl := joinS_nil_len (sortS (signsS x))
  refine ⟨by omega, ?_⟩
  rw [u_all_signs]
  simp_arith [isinV, idxV, inV, binV, addV, for0_name, sliceV, cmpV, flat0, eqF0, lenV, List.map_cons, List.map_nil, List.length_cons, List.length_nil, List.nil_append, List.cons_append, S_all_signs, tbV]
  generalize e : lc0 _ _ _ _ _ _ _ = T
  refine lc_useM e (fun v => match v with | .tup [_, b] => b | _ => .non) (by rw [List.length_nil, List.length_map]; unfold SL; omega) (fun v hv => ?_) fun hT => ?_
  · obtain ⟨ws, hw, rfl⟩ := List.mem_map.mp hv
    obtain ⟨a, b, rfl, _⟩ := hd ws hw
    refine ⟨_, rfl, ?_⟩
    simp_arith [isinV, idxV, inV, binV, addV, for0_name, sliceV, cmpV, flat0, eqF0, mtV, lenV, List.map_cons, List.map_nil, List.length_cons, List.length_nil, List.nil_append, List.cons_append]
    rfl
  · rw [hT]
    have hm : (ps.map tuV).map (fun v => match v with | .tup [_, b] => b | _ => .non) = (ps.map fun ws => ws.getD 1 []).map .str := by
      rw [List.map_map, List.map_map]
      refine List.map_congr_left fun ws hw => ?_
      obtain ⟨a, b, rfl, _⟩ := hd ws hw
      rfl
    rw [hm]
    simp_arith [isinV, idxV, inV, binV, addV, for0_name, sliceV, cmpV, flat0, eqF0, lenV, List.map_cons, List.map_nil, List.length_cons, List.length_nil, List.nil_append, List.cons_append, j1, sx, j2]
def tableB (ps : List (List (List Nat))) : Bool := Nat.ble 1 ps.length && (Nat.ble ps.length 3 && (ps.all levelB && choiceB (sgsB ps)))
theorem tableB_inv {ps : List (List (List Nat))} (h : tableB ps = true) : ps.length ≤ 3 ∧ ∀ ws ∈ ps, ws.length = 2 := by
  unfold tableB at h
  simp only [Bool.and_eq_true] at h
  exact ⟨Nat.le_of_ble_eq_true h.2.1, fun ws hw => levelB_two (List.all_eq_true.mp h.2.2.1 ws hw)⟩
theorem r_is_table_any (k : Nat) (ps : List (List (List Nat))) (hp : ps.length ≤ 100000) (h : ∀ ws ∈ ps, ws.length ≤ 100000 ∧ ∀ w ∈ ws, w.length ≤ 100000) (s : Drw) : C (k + 2) 3 [tbV ps] s = .ret (.bl (tableB ps)) s := by
  have lv : ∀ ws ∈ ps, C (k + 1) 1 [tuV ws] s = .ret (.bl (levelB ws)) s := fun ws hw => r_is_level_any k ws (fun w hq => Nat.le_trans ((h ws hw).2 w hq) (by decide)) (Nat.le_trans (h ws hw).1 (by decide)) s
  have hal := allV_map levelB ps
  rw [u_is_table]
  unfold tableB
  by_cases h1 : 1 ≤ ps.length
  · have d1 : decide ((1 : Int) ≤ ((ps.map tuV).length : Int)) = true := decide_eq_true (by rw [List.length_map]; omega)
    have b1 : Nat.ble 1 ps.length = true := Nat.ble_eq_true_of_le h1
    by_cases h3 : ps.length ≤ 3
    · have d2 : decide (((ps.map tuV).length : Int) ≤ 3) = true := decide_eq_true (by rw [List.length_map]; omega)
      have b2 : Nat.ble ps.length 3 = true := Nat.ble_eq_true_of_le h3
      simp_arith [isinV, idxV, inV, binV, addV, for0_name, sliceV, cmpV, flat0, eqF0, mtV, lenV, List.map_cons, List.map_nil, List.length_cons, List.length_nil, List.nil_append, List.cons_append, S_is_table, tbV, d1, d2, b1, b2]
      generalize e : lc0 _ _ _ _ _ _ _ = T
      refine lc_useM e (fun v => match C (k + 1) 1 [v] s with | .ret u _ => u | _ => .non) (by rw [List.length_nil, List.length_map]; unfold SL; omega) (fun v hv => ⟨_, asgV_name, ?_⟩) fun hT => ?_
      · obtain ⟨ws, hw, rfl⟩ := List.mem_map.mp hv
        have e1 := lv ws hw
        simp_arith [isinV, idxV, inV, binV, addV, for0_name, sliceV, cmpV, flat0, eqF0, mtV, lenV, List.map_cons, List.map_nil, List.length_cons, List.length_nil, List.nil_append, List.cons_append, e1]
      · rw [hT]
        have hm : (ps.map tuV).map (fun v => match C (k + 1) 1 [v] s with | .ret u _ => u | _ => .non) = ps.map fun ws => .bl (levelB ws) := by
          rw [List.map_map]
          refine List.map_congr_left fun ws hw => ?_
          show (match C (k + 1) 1 [tuV ws] s with | .ret u _ => u | _ => VV.non) = _
          rw [lv ws hw]
        rw [hm]
        cases hb : ps.all levelB with
        | false =>
          rw [hb] at hal
          simp_arith [isinV, idxV, inV, binV, addV, for0_name, sliceV, cmpV, flat0, eqF0, mtV, lenV, List.map_cons, List.map_nil, List.length_cons, List.length_nil, List.nil_append, List.cons_append, hal, hb]
        | true =>
          rw [hb] at hal
          have h2 : ∀ ws ∈ ps, ws.length = 2 := fun ws hw => levelB_two (List.all_eq_true.mp hb ws hw)
          obtain ⟨hx, ex⟩ := r_all_signs_any k ps h3 (fun ws hw => ⟨h2 ws hw, (h ws hw).2⟩) s
          have ec := r_is_choice_any k (sgsB ps) hx s
          have ex : C (k + 1) 2 [.tup (ps.map tuV)] s = .ret (.str (sgsB ps)) s := ex
          simp_arith [isinV, idxV, inV, binV, addV, for0_name, sliceV, cmpV, flat0, eqF0, mtV, lenV, List.map_cons, List.map_nil, List.length_cons, List.length_nil, List.nil_append, List.cons_append, hal, hb, ex, ec]
    · have d2 : decide (((ps.map tuV).length : Int) ≤ 3) = false := decide_eq_false (by rw [List.length_map]; omega)
      have b2 : Nat.ble ps.length 3 = false := Bool.eq_false_iff.mpr fun z => h3 (Nat.le_of_ble_eq_true z)
      simp_arith [isinV, idxV, inV, binV, addV, for0_name, sliceV, cmpV, flat0, eqF0, mtV, lenV, List.map_cons, List.map_nil, List.length_cons, List.length_nil, List.nil_append, List.cons_append, S_is_table, tbV, d1, d2, b1, b2]
  · have d1 : decide ((1 : Int) ≤ ((ps.map tuV).length : Int)) = false := decide_eq_false (by rw [List.length_map]; omega)
    have b1 : Nat.ble 1 ps.length = false := Bool.eq_false_iff.mpr fun z => h1 (Nat.le_of_ble_eq_true z)
    simp_arith [isinV, idxV, inV, binV, addV, for0_name, sliceV, cmpV, flat0, eqF0, mtV, lenV, List.map_cons, List.map_nil, List.length_cons, List.length_nil, List.nil_append, List.cons_append, S_is_table, tbV, d1, b1]
theorem split_ev {T S : List Nat} (hS : S ≠ []) (hT : T.length ≤ 100000) : mtV .split (.str T) [.str S] = some (.lst ((TL.spl S 0 [] T).map .str)) := by
  have e : mtV .split (.str T) [.str S] = okO (!S.isEmpty && le' (T.length + 2) SL) (.lst ((TL.spl S 0 [] T).map .str)) := rfl
  have h1 : S.isEmpty = false := by cases S with | nil => exact absurd rfl hS | cons _ _ => rfl
  rw [e, h1, all_le (show T.length + 2 ≤ SL by unfold SL; omega)]
  rfl
/-- what a text is parsed to -/
def psT (T : List Nat) : List (List (List Nat)) := (TL.spl [32, 124, 32] 0 [] T).map (TL.spl [32] 0 [])
theorem psT_ok {T : List Nat} (hT : T.length ≤ 50000) : (psT T).length ≤ 100000 ∧ ∀ ws ∈ psT T, ws.length ≤ 100000 ∧ ∀ w ∈ ws, w.length ≤ 100000 := by
  have hl := spl_len [32, 124, 32] T 0 []
  have hpl : (psT T).length = (TL.spl [32, 124, 32] 0 [] T).length := List.length_map ..
  refine ⟨by omega, fun ws hw => ?_⟩
  obtain ⟨p, hp, rfl⟩ := List.mem_map.mp hw
  have h1 := spl_piece [32, 124, 32] T 0 [] p hp
  rw [List.length_nil] at h1
  have h2 := spl_len [32] p 0 []
  refine ⟨by omega, fun w hw => ?_⟩
  have := spl_piece [32] p 0 [] w hw
  rw [List.length_nil] at this
  omega
theorem r_parse (k : Nat) (T : List Nat) (hT : T.length ≤ 50000) (s : Drw) : C (k + 3) 7 [.str T] s = if tableB (psT T) = true then .ret (tbV (psT T)) s else .exc 5 s := by
  have hl := spl_len [32, 124, 32] T 0 []
  have hpc : ∀ p ∈ TL.spl [32, 124, 32] 0 [] T, p.length ≤ 50000 := fun p hp => by
    have := spl_piece [32, 124, 32] T 0 [] p hp
    rw [List.length_nil] at this
    omega
  have e1 := r_is_table_any k (psT T) (psT_ok hT).1 (psT_ok hT).2 s
  have ct : ∀ s, C (k + 2) 6 [.str T] s = .ret .non s := fun s => by
    rw [u_check_text]
    simp_arith [isinV, idxV, inV, binV, addV, for0_name, sliceV, cmpV, flat0, eqF0, mtV, lenV, List.map_cons, List.map_nil, List.length_cons, List.length_nil, List.nil_append, List.cons_append, S_check_text]
  have sp := split_ev (T := T) (S := [32, 124, 32]) (by simp) (by omega)
  rw [u_parse_table]
  simp_arith [isinV, idxV, inV, binV, addV, for0_name, sliceV, cmpV, flat0, eqF0, lenV, List.map_cons, List.map_nil, List.length_cons, List.length_nil, List.nil_append, List.cons_append, S_parse_table, ct, sp]
  generalize e : lc0 _ _ _ _ _ _ _ = Z
  refine lc_useM e (fun v => match v with | .str p => tuV (TL.spl [32] 0 [] p) | _ => .non) (by rw [List.length_nil, List.length_map]; unfold SL; omega) (fun v hv => ⟨_, asgV_name, ?_⟩) fun hZ => ?_
  · obtain ⟨p, hp, rfl⟩ := List.mem_map.mp hv
    have sp2 := split_ev (T := p) (S := [32]) (by simp) (by have := hpc p hp; omega)
    simp_arith [isinV, idxV, inV, binV, addV, for0_name, sliceV, cmpV, flat0, eqF0, lenV, List.map_cons, List.map_nil, List.length_cons, List.length_nil, List.nil_append, List.cons_append, sp2]
    rfl
  · rw [hZ]
    have hm : ((TL.spl [32, 124, 32] 0 [] T).map VV.str).map (fun v => match v with | .str p => tuV (TL.spl [32] 0 [] p) | _ => .non) = (psT T).map tuV := by
      unfold psT
      rw [List.map_map, List.map_map]
      rfl
    rw [hm]
    have e1 : C (k + 2) 3 [.tup ((psT T).map tuV)] s = .ret (.bl (tableB (psT T))) s := e1
    cases hb : tableB (psT T) with
    | true =>
      rw [hb] at e1
      simp_arith [isinV, idxV, inV, binV, addV, for0_name, sliceV, cmpV, flat0, eqF0, lenV, List.map_cons, List.map_nil, List.length_cons, List.length_nil, List.nil_append, List.cons_append, e1]
      rfl
    | false =>
      rw [hb] at e1
      simp_arith [isinV, idxV, inV, binV, addV, for0_name, sliceV, cmpV, flat0, eqF0, lenV, List.map_cons, List.map_nil, List.length_cons, List.length_nil, List.nil_append, List.cons_append, e1]
theorem r_error (k : Nat) (s : Drw) : C (k + 1) 11 [.exc 5] s = .ret (.str [116, 101, 120, 116]) s := by kernel_rfl
theorem r_parsed (k : Nat) (T : List Nat) (hT : T.length ≤ 50000) (s : Drw) : C (k + 4) 15 [.str T] s = .ret (if tableB (psT T) = true then tbV (psT T) else .str [116, 101, 120, 116]) s := by
  have e := r_parse k T hT s
  have er : C (k + 3) 11 [.exc 5] s = .ret (.str [116, 101, 120, 116]) s := r_error (k + 2) s
  rw [u__law_parsed]
  cases hb : tableB (psT T) with
  | true =>
    rw [hb, if_pos rfl] at e
    rw [if_pos rfl]
    generalize tbV (psT T) = w at *
    simp_arith [isinV, idxV, inV, binV, addV, for0_name, sliceV, cmpV, flat0, eqF0, mtV, lenV, List.map_cons, List.map_nil, List.length_cons, List.length_nil, List.nil_append, List.cons_append, S__law_parsed, e]
  | false =>
    rw [hb, if_neg Bool.false_ne_true] at e
    rw [if_neg Bool.false_ne_true]
    have bl : Nat.blt 5 7 = true := rfl
    simp_arith [isinV, idxV, inV, binV, addV, for0_name, sliceV, cmpV, flat0, eqF0, mtV, lenV, List.map_cons, List.map_nil, List.length_cons, List.length_nil, List.nil_append, List.cons_append, S__law_parsed, e, er, bl, isN0_exc]
theorem r_words (k : Nat) (T : List Nat) (hT : T.length ≤ 50000) (h : ∀ ws ∈ psT T, ws.length = 2) (h3 : (psT T).length ≤ 3) (s : Drw) : C (k + 1) 16 [tbV (psT T)] s = .ret (.str T) s := by
  have hpc : ∀ p ∈ TL.spl [32, 124, 32] 0 [] T, p.length ≤ 50000 := fun p hp => by
    have := spl_piece [32, 124, 32] T 0 [] p hp
    rw [List.length_nil] at this
    omega
  have hl : (TL.spl [32, 124, 32] 0 [] T).length ≤ 3 := by
    have : (psT T).length = (TL.spl [32, 124, 32] 0 [] T).length := List.length_map ..
    omega
  have two : ∀ p ∈ TL.spl [32, 124, 32] 0 [] T, ∃ a b, TL.spl [32] 0 [] p = [a, b] ∧ a ++ [32] ++ b = p ∧ a.length ≤ 50000 ∧ b.length ≤ 50000 := fun p hp => by
    have h2 := h _ (List.mem_map.mpr ⟨p, hp, rfl⟩)
    have hj := join_spl (S := [32]) (by simp) p.length p [] (Nat.le_refl _)
    have hpp := spl_piece [32] p 0 []
    have hq := hpc p hp
    rw [List.nil_append] at hj
    generalize TL.spl [32] 0 [] p = W at *
    match W, h2, hj, hpp with
    | [a, b], _, hj, hpp =>
      have ha := hpp a (by simp)
      have hb := hpp b (by simp)
      rw [List.length_nil] at ha hb
      exact ⟨a, b, rfl, by rw [List.append_assoc]; exact hj, by omega, by omega⟩
  have jT := join_spl (S := [32, 124, 32]) (by simp) T.length T [] (Nat.le_refl _)
  rw [List.nil_append] at jT
  have sm := sumN_le (n := 50000) _ hpc
  have jv := joinV_strs (S := [32, 124, 32]) (xs := TL.spl [32, 124, 32] 0 [] T) (by have : (TL.spl [32, 124, 32] 0 [] T).length * 50000 ≤ 3 * 50000 := Nat.mul_le_mul_right _ hl; show _ + _ * 3 ≤ SL; unfold SL; omega)
  rw [jT] at jv
  rw [u__law_words]
  simp_arith [isinV, idxV, inV, binV, addV, for0_name, sliceV, cmpV, flat0, eqF0, lenV, List.map_cons, List.map_nil, List.length_cons, List.length_nil, List.nil_append, List.cons_append, S__law_words, tbV]
  generalize e : lc0 _ _ _ _ _ _ _ = Z
  refine lc_useM e (fun v => match v with | .tup [.str a, .str b] => .str (a ++ [32] ++ b) | _ => .non) (by rw [List.length_nil, List.length_map]; unfold SL; omega) (fun v hv => ?_) fun hZ => ?_
  · obtain ⟨ws, hw, rfl⟩ := List.mem_map.mp hv
    obtain ⟨p, hp, rfl⟩ := List.mem_map.mp hw
    obtain ⟨a, b, e1, e2, ha, hb⟩ := two p hp
    rw [e1]
    refine ⟨_, rfl, ?_⟩
    have l1 : le' (a.length + (0 + 1)) SL = true := all_le (by unfold SL; omega)
    have l2 : le' ((a ++ [32]).length + b.length) SL = true := all_le (by rw [List.length_append, List.length_singleton]; unfold SL; omega)
    simp_arith [isinV, idxV, inV, binV, addV, for0_name, sliceV, cmpV, flat0, eqF0, mtV, lenV, List.map_cons, List.map_nil, List.length_cons, List.length_nil, List.nil_append, List.cons_append, l1, l2]
    rfl
  · rw [hZ]
    have hm : ((psT T).map tuV).map (fun v => match v with | .tup [.str a, .str b] => VV.str (a ++ [32] ++ b) | _ => .non) = (TL.spl [32, 124, 32] 0 [] T).map .str := by
      unfold psT
      rw [List.map_map, List.map_map]
      refine List.map_congr_left fun p hp => ?_
      obtain ⟨a, b, e1, e2, _⟩ := two p hp
      show (match tuV (TL.spl [32] 0 [] p) with | .tup [.str a, .str b] => VV.str (a ++ [32] ++ b) | _ => .non) = _
      rw [e1]
      show VV.str (a ++ [32] ++ b) = _
      rw [e2]
    rw [hm]
    simp_arith [isinV, idxV, inV, binV, addV, for0_name, sliceV, cmpV, flat0, eqF0, lenV, List.map_cons, List.map_nil, List.length_cons, List.length_nil, List.nil_append, List.cons_append, jv]
def fmtT (t : VV) : List Nat := match t with
  | .tup ls => joinS [32, 124, 32] (ls.map fun l => match l with | .tup [.str w, .str g] => w ++ [32] ++ g | _ => [])
  | _ => []
theorem tabs_fmt (k : Nat) (s : Drw) : ∀ m ∈ manys, ∀ t ∈ tabs (sgOf m), C (k + 5) 5 [t] s = .ret (.str (fmtT t)) s := by
  intro m hm
  simp only [manys, List.mem_cons, List.not_mem_nil, or_false] at hm
  rcases hm with rfl | rfl | rfl | rfl | rfl | rfl | rfl | rfl
  all_goals exact List.map_inj_left.mp (by kernel_rfl)
theorem tabs_words (k : Nat) (s : Drw) : ∀ m ∈ manys, ∀ t ∈ tabs (sgOf m), C (k + 1) 16 [t] s = .ret (.str (fmtT t)) s := by
  intro m hm
  simp only [manys, List.mem_cons, List.not_mem_nil, or_false] at hm
  rcases hm with rfl | rfl | rfl | rfl | rfl | rfl | rfl | rfl
  all_goals exact List.map_inj_left.mp (by kernel_rfl)
theorem tabs_parsed (k : Nat) (s : Drw) : ∀ m ∈ manys, ∀ t ∈ tabs (sgOf m), C (k + 5) 15 [.str (fmtT t)] s = .ret t s := by
  intro m hm
  simp only [manys, List.mem_cons, List.not_mem_nil, or_false] at hm
  rcases hm with rfl | rfl | rfl | rfl | rfl | rfl | rfl | rfl
  all_goals exact List.map_inj_left.mp (by kernel_rfl)
theorem tabs_small : ∀ m ∈ manys, ∀ t ∈ tabs (sgOf m), (Nat.ble (fmtT t).length 100 && dep 64 t) = true := by
  intro m hm
  simp only [manys, List.mem_cons, List.not_mem_nil, or_false] at hm
  rcases hm with rfl | rfl | rfl | rfl | rfl | rfl | rfl | rfl
  all_goals exact (List.map_inj_left (f := fun t => (Nat.ble (fmtT t).length 100 && dep 64 t)) (g := fun _ => true)).mp (by kernel_rfl)
theorem r_rejected (k : Nat) (s : Drw) : C (k + 6) 17 [] s = .ret (.bl true) s := by kernel_rfl
theorem cut_map {α β : Type} (f : α → β) (xs : List α) (lo hi : Option Int) : cut (xs.map f) lo hi = (cut xs lo hi).map f := by
  unfold cut
  rw [List.length_map, List.map_take, List.map_drop]
theorem slice_strs (xs : List (List Nat)) (lo hi : Option Int) : sliceV (.lst (xs.map .str)) lo hi = some (.lst ((cut xs lo hi).map .str)) := by
  show some (VV.lst (cut (xs.map .str) lo hi)) = _
  rw [cut_map]
theorem add_strs {xs ys : List (List Nat)} (h : xs.length + ys.length ≤ SL) : addV (.lst (xs.map .str)) (.lst (ys.map .str)) = some (.lst ((xs ++ ys).map .str)) := by
  show okO (le' ((xs.map VV.str).length + (ys.map VV.str).length) SL) (VV.lst (xs.map .str ++ ys.map .str)) = _
  rw [List.length_map, List.length_map, all_le h, List.map_append]
  rfl
theorem cut_mem {α : Type} {xs : List α} {lo hi : Option Int} {x : α} (h : x ∈ cut xs lo hi) : x ∈ xs := List.mem_of_mem_drop (List.mem_of_mem_take h)
theorem joinS_le (s : List Nat) : ∀ ss : List (List Nat), (joinS s ss).length ≤ sumN (ss.map List.length) + ss.length * s.length
  | [] => Nat.zero_le _
  | [p] => by show p.length ≤ p.length + 0 + 1 * s.length; omega
  | p :: q :: r => by
    have ih := joinS_le s (q :: r)
    rw [joinS_cons s p (by simp), List.length_append, List.length_append, List.map_cons, List.length_cons, Nat.add_mul, Nat.one_mul]
    show p.length + (s.length + (joinS s (q :: r)).length) ≤ p.length + sumN ((q :: r).map List.length) + _
    omega
theorem eqV_tup_str {xs : List VV} {t : List Nat} (h : dep 64 (.tup xs) = true) : eqV (.tup xs) (.str t) = some false := by
  rw [eqV_dep h rfl]
  rfl
theorem dep_tb (ps : List (List (List Nat))) : dep 64 (tbV ps) = true := by
  refine List.all_eq_true.mpr fun v hv => ?_
  obtain ⟨ws, _, rfl⟩ := List.mem_map.mp hv
  refine List.all_eq_true.mpr fun u hu => ?_
  obtain ⟨w, _, rfl⟩ := List.mem_map.mp hu
  rfl
def pool17 : List (List Nat) := [[108, 101, 102, 116], [114, 105, 103, 104, 116], [110, 111, 110, 101], [97], [98], [99], [112], [113], [124], [97, 98], [120], [], [32]]
theorem law_true : LawTrue := by
  intro s _
  obtain ⟨m, s1, hm, em⟩ := r_many 197 s
  have em : C 200 12 [.drw] s = .ret (mV m) s1 := em
  obtain ⟨t, s2, ht, et⟩ := r_table 196 s1 m hm
  have et : C 200 14 [.drw, mV m] s1 = .ret t s2 := et
  have ef : ∀ s, C 200 5 [t] s = .ret (.str (fmtT t)) s := fun s => tabs_fmt 195 s m hm t ht
  have ew : ∀ s, C 200 16 [t] s = .ret (.str (fmtT t)) s := fun s => tabs_words 199 s m hm t ht
  have ep : ∀ s, C 200 15 [.str (fmtT t)] s = .ret t s := fun s => tabs_parsed 195 s m hm t ht
  have sm := tabs_small m hm t ht
  rw [Bool.and_eq_true] at sm
  have hl := Nat.le_of_ble_eq_true sm.1
  have q1 := eqV_refl sm.2
  generalize fmtT t = T at *
  have sp := split_ev (T := T) (S := [32]) (by simp) (by omega)
  have wl := spl_len [32] T 0 []
  have wp := spl_piece [32] T 0 []
  rw [List.length_nil] at wp
  generalize TL.spl [32] 0 [] T = ws at *
  have er : ∀ env s, xsO (rangeV [.int 16]) env s = .ret ((List.range 16).map natV) env s := fun env s => xsO_range (n := 16) (by decide)
  have rj : ∀ s, C 200 17 [] s = .ret (.bl true) s := fun s => r_rejected 194 s
  suffices h : retF (ev0law s) fun v _ => v = .bl true by
    obtain ⟨v, s', e, rfl⟩ := retF_inv h
    exact ⟨s', e⟩
  show retF (rt0 (x0s cs (C 200) WF (S_law.body.drop 1) [none, some (false, .drw), none, none, none, none, none, none, none, none, none, none] s)) _
  simp_arith [isinV, idxV, inV, binV, addV, sliceV, cmpV, flat0, eqF0, lenV, List.map_cons, List.map_nil, List.length_cons, List.length_nil, List.nil_append, List.cons_append, S_law, List.drop_succ_cons, List.drop_zero, em, et, ef, ew, ep, q1, sp, decide_true, er]
  generalize e : for0 _ _ _ _ _ = Z
  refine for_inv e (fun _ env _ => ∃ f4 e6 e7 e8 e9 e10 e11, env = [none, some (false, .drw), some (false, t), some (false, .str T), some (f4, .lst (pool17.map .str)), some (false, .lst (ws.map .str)), e6, e7, e8, e9, e10, e11]) ⟨_, _, _, _, _, _, _, rfl⟩ ?_ ?_
  · rintro x rest env s ⟨f4, e6, e7, e8, e9, e10, e11, rfl⟩
    refine ⟨_, asgV_name, ?_⟩
    have hd := dVal_lt s (lim := (ws.length : Int) + 1) (by omega)
    obtain ⟨d, ed⟩ := Int.eq_ofNat_of_zero_le hd.1
    have hdl : d ≤ ws.length := by omega
    have h1 : C 200 9 [.drw, .int ((ws.length : Int) + 1)] s = .ret (.int d) (dNext s ((ws.length : Int) + 1)) := by rw [← ed]; exact r_draw 199 _ s (by omega) (by omega)
    generalize dNext s ((ws.length : Int) + 1) = s3 at *
    obtain ⟨v, s4, hv, h2⟩ := r_pick 198 (pool17.map .str) s3 (by decide) (by decide)
    have h2 : C 200 10 [.drw, .lst (pool17.map .str)] s3 = .ret v s4 := h2
    obtain ⟨mk, hmk, rfl⟩ := List.mem_map.mp hv
    have hml : mk.length ≤ 5 := by
      have : ∀ x ∈ pool17, x.length ≤ 5 := by decide
      exact this mk hmk
    have cl : ∀ lo hi, (cut ws lo hi).length ≤ 101 := fun lo hi => Nat.le_trans (cut_len ws lo hi) (by omega)
    have a1 : ∀ lo hi, addV (.lst ((cut ws lo hi).map .str)) (.lst [.str mk]) = some (.lst ((cut ws lo hi ++ [mk]).map .str)) := fun lo hi => add_strs (ys := [mk]) (by have := cl lo hi; rw [List.length_singleton]; unfold SL; omega)
    have a2 : ∀ lo hi lo2 hi2, addV (.lst ((cut ws lo hi ++ [mk]).map .str)) (.lst ((cut ws lo2 hi2).map .str)) = some (.lst ((cut ws lo hi ++ [mk] ++ cut ws lo2 hi2).map .str)) := fun lo hi lo2 hi2 => add_strs (by have := cl lo hi; have := cl lo2 hi2; rw [List.length_append, List.length_singleton]; unfold SL; omega)
    have a3 : ∀ lo hi lo2 hi2, addV (.lst ((cut ws lo hi).map .str)) (.lst ((cut ws lo2 hi2).map .str)) = some (.lst ((cut ws lo hi ++ cut ws lo2 hi2).map .str)) := fun lo hi lo2 hi2 => add_strs (by have := cl lo hi; have := cl lo2 hi2; unfold SL; omega)
    have ai : ∀ i j : Int, addV (.int i) (.int j) = some (.int (i + j)) := fun _ _ => rfl
    have ln : ((ws.map VV.str).length : Int) = ws.length := by rw [List.length_map]
    generalize eA : cut ws none (some (d : Int)) ++ [mk] ++ cut ws (some ((d : Int) + 1)) none = A at *
    generalize eB : cut ws none (some (d : Int)) ++ [mk] ++ cut ws (some (d : Int)) none = B at *
    generalize eC : cut ws none (some (d : Int)) ++ cut ws (some ((d : Int) + 1)) none = D at *
    obtain ⟨u, s5, hu, h3⟩ := r_pick 198 [.lst (A.map .str), .lst (B.map .str), .lst (D.map .str)] s4 (by simp) (by simp)
    have h3 : C 200 10 [.drw, .lst [.lst (A.map .str), .lst (B.map .str), .lst (D.map .str)]] s4 = .ret u s5 := h3
    have ok : ∀ lo hi lo2 hi2 (z : List (List Nat)), (∀ x ∈ z, x = mk) → z.length ≤ 1 → (cut ws lo hi ++ z ++ cut ws lo2 hi2).length ≤ 210 ∧ ∀ x ∈ cut ws lo hi ++ z ++ cut ws lo2 hi2, x.length ≤ 100 := fun lo hi lo2 hi2 z hz hzl => by
      refine ⟨by have := cl lo hi; have := cl lo2 hi2; rw [List.length_append, List.length_append]; omega, fun x hx => ?_⟩
      rcases List.mem_append.mp hx with hx | hx
      · rcases List.mem_append.mp hx with hx | hx
        · have := wp x (cut_mem hx); omega
        · rw [hz x hx]; omega
      · have := wp x (cut_mem hx); omega
    obtain ⟨ys, rfl, hy1, hy2⟩ : ∃ ys : List (List Nat), u = .lst (ys.map .str) ∧ ys.length ≤ 210 ∧ sumN (ys.map List.length) ≤ 21000 := by
      have fin : ∀ ys : List (List Nat), (ys.length ≤ 210 ∧ ∀ x ∈ ys, x.length ≤ 100) → ∃ zs : List (List Nat), VV.lst (ys.map .str) = .lst (zs.map .str) ∧ zs.length ≤ 210 ∧ sumN (zs.map List.length) ≤ 21000 := fun ys h => ⟨ys, rfl, h.1, Nat.le_trans (sumN_le ys h.2) (by have := h.1; omega)⟩
      simp only [List.mem_cons, List.not_mem_nil, or_false] at hu
      rcases hu with rfl | rfl | rfl
      · exact fin A (by rw [← eA]; exact ok _ _ _ _ [mk] (fun x hx => List.mem_singleton.mp hx) (Nat.le_refl _))
      · exact fin B (by rw [← eB]; exact ok _ _ _ _ [mk] (fun x hx => List.mem_singleton.mp hx) (Nat.le_refl _))
      · exact fin D (by rw [← eC]; have := ok none (some (d : Int)) (some ((d : Int) + 1)) none [] (fun x hx => absurd hx List.not_mem_nil) (Nat.zero_le _); rw [List.append_nil] at this; exact this)
    have jv := joinV_strs (S := [32]) (xs := ys) (by show _ + _ * 1 ≤ SL; unfold SL; omega)
    have jl := joinS_le [32] ys
    have jl : (joinS [32] ys).length ≤ 50000 := by have : ys.length * [32].length = ys.length := Nat.mul_one _; omega
    generalize joinS [32] ys = O at *
    have p3 : C 200 15 [.str O] s5 = .ret (if tableB (psT O) = true then tbV (psT O) else .str [116, 101, 120, 116]) s5 := r_parsed 196 O jl s5
    have p1 : C 200 3 [tbV (psT O)] s5 = .ret (.bl (tableB (psT O))) s5 := r_is_table_any 198 (psT O) (psT_ok jl).1 (psT_ok jl).2 s5
    have p2 := tableB_inv (ps := psT O)
    generalize tableB (psT O) = b at *
    simp_arith [isinV, idxV, inV, binV, for0_name, cmpV, flat0, eqF0, lenV, List.map_cons, List.map_nil, List.length_cons, List.length_nil, List.nil_append, List.cons_append, ln, h1, h2, slice_strs, a1, a2, a3, ai, eA, eB, eC, h3, jv, p3]
    cases b with
    | false =>
      simp_arith [isinV, idxV, inV, binV, addV, for0_name, sliceV, cmpV, flat0, eqF0, mtV, lenV, List.map_cons, List.map_nil, List.length_cons, List.length_nil, List.nil_append, List.cons_append]
      exact ⟨_, _, _, _, _, _, _, rfl⟩
    | true =>
      have pw : C 200 16 [tbV (psT O)] s5 = .ret (.str O) s5 := r_words 199 O jl (p2 rfl).2 (p2 rfl).1 s5
      have pt : C 200 3 [tbV (psT O)] s5 = .ret (.bl true) s5 := p1
      have qn : eqV (tbV (psT O)) (.str [116, 101, 120, 116]) = some false := eqV_tup_str (dep_tb _)
      generalize tbV (psT O) = W at *
      simp_arith [isinV, idxV, inV, binV, addV, for0_name, sliceV, cmpV, flat0, eqF0, mtV, lenV, List.map_cons, List.map_nil, List.length_cons, List.length_nil, List.nil_append, List.cons_append, qn, pw, pt]
      exact ⟨_, _, _, _, _, _, _, rfl⟩
  · intro env' s' hZ hI
    clear e
    obtain ⟨f4, e6, e7, e8, e9, e10, e11, rfl⟩ := hI
    rw [hZ]
    simp_arith [isinV, idxV, inV, binV, addV, for0_name, sliceV, cmpV, flat0, eqF0, mtV, lenV, List.map_cons, List.map_nil, List.length_cons, List.length_nil, List.nil_append, List.cons_append, rj]
end HD

open PySem PySem.W PySem.Calls PyProof.Rows
theorem PySem.Challenge.cw_bindreads_k17_whole_table_texts_holds : PySem.Challenge.rw_bindreads_k17_whole_table_texts.Holds := by
  w_on; o_law
  refine HandSHeadRun.head_any (r := OpenLaw.row PySem.Challenge.rw_bindreads_k17_whole_table_texts) (q := view (OpenLaw.row PySem.Challenge.rw_bindreads_k17_whole_table_texts).prog [32]) (H := HD.hk) (ob := HD.ob) (M := 6000) (loose := HD.loose) (d := HandSHeadRun.topDef (OpenLaw.row PySem.Challenge.rw_bindreads_k17_whole_table_texts).prog 32) (kwd := []) HD.ob_eq
    (by kernel_rfl) (fun s => by kernel_rfl) HD.run (by kernel_rfl) (by kernel_rfl) (by kernel_rfl) (by rfl) (by first | assumption | decide +kernel) (by decide +kernel) ⟨rfl, rfl, rfl, rfl, rfl, by decide +kernel⟩ ?hw ?hc
  case hw => w_witness2
  case hc =>
    refine L2.walk_ofE (l := PySem.Challenge.rw_bindreads_k17_whole_table_texts) (n := 63) (k := 201) (x := "_law_script") (CX := MP.CXn) rfl (by decide) (by kernel_rfl) ⟨rfl, by decide, by decide⟩ ?F (fun _ _ _ _ z => z)
    intro w mg fa h Y G hmg0
    obtain ⟨K, KX, c⟩ := Y
    have hmg : mg ("law" : PySem.Str) = some (.ref fa) := by
      have e : (HandSHeadRun.topDef (OpenLaw.row PySem.Challenge.rw_bindreads_k17_whole_table_texts).prog 32).name = ("law" : PySem.Str) := by kernel_rfl
      rw [← e]
      exact hmg0
    obtain ⟨fd, hb, hF⟩ := HD.facts (P := (PySem.Challenge.rw_bindreads_k17_whole_table_texts).prog) (w := w) KX G hmg c
    exact ⟨K, fd, _, KX, hb, fun H a ns hl ho hS => MP.law_sp ho hS (HD.law_wp HD.law_true ns), hF⟩
