import PyProof.Rows.All
import Wide.All
import OpenK.AllK
import Wide.FinOn
import PyProof.P3Statements
import HandS.Comp
import PyProof.EqAt
import PyProof.EqKinds
import PyProof.TupleCall
import PyProof.CodeObj
import KE.KLam
import HandS.Base
import HandS.Call
import HandS.List
import HandS.Text
import HandS.Exc
import HandS.Flow
import HandS.TupAny
import HandS.IsInst
import HandS.Lambda
import HandS.Wide
import HandS.WideMore
import HandS.ListItems
import HandS.Iter
import HandS.Zip
import HandS.Walk
import HandS.Dict
import HandS.Style
import HandS.Ends
import HandS.TryMany
import HandS.ExcField
import HandS.Star
import HandS.RevTup
import HandS.ExcOwn
import HandS.HeadHook4
import HandS.HeadWalk
import HandS.Head2
import PySem.Challenge.RW_spacedrows_k77_two_ways_refused
set_option Elab.async false
set_option linter.all false
set_option maxRecDepth 100000
set_option maxHeartbeats 0
/-! EvA: the core language and its evaluator. Lists, dicts, lambdas stand in a heap (Tr); tuples go by value. -/
namespace Ev
open PySem

abbrev Key := Sum Int Str

/-- data; ref k: the k-th object of the heap -/
inductive D where
  | non | bl (b : Bool) | int (i : Int) | str (x : Str) | ref (k : Nat) | tup (xs : List D)
  deriving Inhabited

theorem nbeq_f {a b : Nat} (h : a ≠ b) : Nat.beq a b = false := by
  cases e : Nat.beq a b with
  | false => rfl
  | true => exact absurd (Nat.eq_of_beq_eq_true e) h
theorem nbeq_t {a b : Nat} (h : a = b) : Nat.beq a b = true := by subst h; exact Nat.beq_refl a
/-! ### a trie -/
inductive Tr (α : Type) where
  | nil
  | node (v : Option α) (l r : Tr α)
  deriving Repr
namespace Tr
variable {α : Type}
def get : Tr α → Nat → Option α
  | .nil, _ => none
  | .node v l r, k => bif Nat.beq k 0 then v else bif Nat.beq (k % 2) 1 then l.get (k / 2) else r.get (k / 2 - 1)
def setF : Nat → Tr α → Nat → Option α → Tr α
  | 0, t, _, _ => t
  | f + 1, .nil, k, v => bif Nat.beq k 0 then .node v .nil .nil else bif Nat.beq (k % 2) 1 then .node none (setF f .nil (k / 2) v) .nil else .node none .nil (setF f .nil (k / 2 - 1) v)
  | f + 1, .node w l r, k, v => bif Nat.beq k 0 then .node v l r else bif Nat.beq (k % 2) 1 then .node w (setF f l (k / 2) v) r else .node w l (setF f r (k / 2 - 1) v)
def put (t : Tr α) (k : Nat) (v : Option α) : Tr α := setF (k + 1) t k v
theorem get_nil (j : Nat) : (Tr.nil : Tr α).get j = none := by unfold get; rfl
theorem get_setF : ∀ (f : Nat) (t : Tr α) (k : Nat) (v : Option α) (j : Nat), k < f → (setF f t k v).get j = if j = k then v else t.get j
  | 0, _, _, _, _, h => absurd h (Nat.not_lt_zero _)
  | f + 1, .nil, k, v, j, h => by
    unfold setF
    by_cases k0 : k = 0
    · subst k0
      simp only [show Nat.beq 0 0 = true from rfl, cond_true]
      unfold get
      by_cases j0 : j = 0
      · subst j0; simp
      · have : Nat.beq j 0 = false := nbeq_f j0
        simp only [this, cond_false, j0, if_false, get_nil]
        cases Nat.beq (j % 2) 1 <;> simp
    · have b0 : Nat.beq k 0 = false := nbeq_f k0
      simp only [b0, cond_false]
      by_cases k1 : k % 2 = 1
      · have b1 : Nat.beq (k % 2) 1 = true := nbeq_t k1
        simp only [b1, cond_true, get_nil]
        unfold get
        by_cases j0 : j = 0
        · subst j0
          rw [if_neg (by omega)]; simp
        · have c0 : Nat.beq j 0 = false := nbeq_f j0
          simp only [c0, cond_false]
          by_cases j1 : j % 2 = 1
          · have c1 : Nat.beq (j % 2) 1 = true := nbeq_t j1
            simp only [c1, cond_true]
            rw [get_setF f .nil (k / 2) v (j / 2) (by omega), get_nil]
            by_cases e : j = k
            · rw [if_pos e, if_pos (by rw [e])]
            · rw [if_neg e, if_neg (by omega)]
          · have c1 : Nat.beq (j % 2) 1 = false := nbeq_f j1
            simp only [c1, cond_false, get_nil]
            rw [if_neg (by rintro rfl; exact j1 k1)]
      · have b1 : Nat.beq (k % 2) 1 = false := nbeq_f k1
        simp only [b1, cond_false, get_nil]
        unfold get
        by_cases j0 : j = 0
        · subst j0
          rw [if_neg (by omega)]; simp
        · have c0 : Nat.beq j 0 = false := nbeq_f j0
          simp only [c0, cond_false]
          by_cases j1 : j % 2 = 1
          · have c1 : Nat.beq (j % 2) 1 = true := nbeq_t j1
            simp only [c1, cond_true, get_nil]
            rw [if_neg (by rintro rfl; exact k1 j1)]
          · have c1 : Nat.beq (j % 2) 1 = false := nbeq_f j1
            simp only [c1, cond_false]
            rw [get_setF f .nil (k / 2 - 1) v (j / 2 - 1) (by omega), get_nil]
            by_cases e : j = k
            · rw [if_pos e, if_pos (by rw [e])]
            · rw [if_neg e, if_neg (by omega)]
  | f + 1, .node w l r, k, v, j, h => by
    unfold setF
    by_cases k0 : k = 0
    · subst k0
      simp only [show Nat.beq 0 0 = true from rfl, cond_true]
      unfold get
      by_cases j0 : j = 0
      · subst j0; simp
      · have : Nat.beq j 0 = false := nbeq_f j0
        simp only [this, cond_false, j0, if_false]
    · have b0 : Nat.beq k 0 = false := nbeq_f k0
      simp only [b0, cond_false]
      by_cases k1 : k % 2 = 1
      · have b1 : Nat.beq (k % 2) 1 = true := nbeq_t k1
        simp only [b1, cond_true]
        unfold get
        by_cases j0 : j = 0
        · subst j0
          rw [if_neg (by omega)]; simp
        · have c0 : Nat.beq j 0 = false := nbeq_f j0
          simp only [c0, cond_false]
          by_cases j1 : j % 2 = 1
          · have c1 : Nat.beq (j % 2) 1 = true := nbeq_t j1
            simp only [c1, cond_true]
            rw [get_setF f l (k / 2) v (j / 2) (by omega)]
            by_cases e : j = k
            · rw [if_pos e, if_pos (by rw [e])]
            · rw [if_neg e, if_neg (by omega)]
          · have c1 : Nat.beq (j % 2) 1 = false := nbeq_f j1
            simp only [c1, cond_false]
            rw [if_neg (by rintro rfl; exact j1 k1)]
      · have b1 : Nat.beq (k % 2) 1 = false := nbeq_f k1
        simp only [b1, cond_false]
        unfold get
        by_cases j0 : j = 0
        · subst j0
          rw [if_neg (by omega)]; simp
        · have c0 : Nat.beq j 0 = false := nbeq_f j0
          simp only [c0, cond_false]
          by_cases j1 : j % 2 = 1
          · have c1 : Nat.beq (j % 2) 1 = true := nbeq_t j1
            simp only [c1, cond_true]
            rw [if_neg (by rintro rfl; exact k1 j1)]
          · have c1 : Nat.beq (j % 2) 1 = false := nbeq_f j1
            simp only [c1, cond_false]
            rw [get_setF f r (k / 2 - 1) v (j / 2 - 1) (by omega)]
            by_cases e : j = k
            · rw [if_pos e, if_pos (by rw [e])]
            · rw [if_neg e, if_neg (by omega)]
theorem get_put (t : Tr α) (k : Nat) (v : Option α) (j : Nat) : (t.put k v).get j = if j = k then v else t.get j := get_setF _ _ _ _ _ (Nat.lt_succ_self _)
theorem get_put_same (t : Tr α) (k : Nat) (v : Option α) : (t.put k v).get k = v := by rw [get_put, if_pos rfl]
theorem get_put_ne (t : Tr α) {k j : Nat} (v : Option α) (h : j ≠ k) : (t.put k v).get j = t.get j := by rw [get_put, if_neg h]
end Tr

/-! ### the core's syntax -/
inductive Ty where | list | tuple | int | bool | str | dict
  deriving DecidableEq, Repr
inductive Bo where | add | sub | mul | fdiv | mod | pow
  deriving DecidableEq, Repr
inductive Co where | eq | ne | lt | le | gt | ge | isn | notn
  deriving DecidableEq, Repr
inductive Bu where
  | len | inst (ts : List Ty) | tuple | list | int | all | sum | abs
  | zipT  -- tuple(zip(*x))
  | items  -- list(d.items())
  deriving DecidableEq, Repr
inductive Me where | append | extend | pop
  deriving DecidableEq, Repr
/-- targets -/
inductive Nt where | v (i : Nat) | t (l : List Nt)
  deriving Repr

mutual
inductive E where
  | int (i : Int) | bl (b : Bool) | non | str (x : Str)
  | var (i : Nat)
  | tup (es : Es) | lst (es : Es) | dct0
  | bin (o : Bo) (a b : E) | neg (a : E) | not (a : E)
  | cmp (o : Co) (a b : E) | chain (o p : Co) (a b c : E)
  /-- a == [], a != [] -/
  | nilc (o : Co) (a : E)
  | and (a b : E) | or (a b : E)
  | ite (c a b : E)
  | idx (a i : E)
  | sl (a : E) (lo hi : Oe)
  /-- a def's call; pm: where each parameter's argument stands among the written ones ([]: as they stand) -/
  | call (f : Nat) (pm : List Nat) (es ks : Es)
  | bu (b : Bu) (a : E) | divmod (a b : E)
  | me (m : Me) (a : E) (es : Es)
  | vcall (a : E) (es : Es)
  /-- own: the slots of the comprehension's variables; cells: those of them that are cells -/
  | comp (own cells : List Nat) (tg : Nt) (it : It) (ifs : Es) (elt : E)
  /-- a lambda: its number among the text's lambdas (parameters, captured names, slots, body); the slots of what it captures -/
  | lam (np nf ns : Nat) (body : E) (js : List Nat)
inductive Es where | nil | cons (e : E) (es : Es)
inductive Oe where | no | yes (e : E)
inductive It where
  | seq (e : E) | range (es : Es) | zip (a b : E) | enum (e : E) | zipS (e : E)
end

inductive Tg where
  | nm (t : Nt)
  | sub (a i : E)

mutual
inductive St where
  | asg (t : Tg) (e : E)
  /-- x, y = a, b: stored from the left -/
  | asgs (l : List Tg) (es : Es)
  /-- x, y = a, b with plain local names: stored from the right -/
  | par (l : List Nat) (es : Es)
  | aug (i : Nat) (o : Bo) (e : E)
  | ex (e : E)
  | ite (c : E) (a b : Ss)
  | for_ (t : Nt) (it : It) (b : Ss)
  | whl (c : E) (b : Ss)
  | ret (e : E) | retN
  | rais (c : Nat) (es : Es)
  /-- try: return e / except X as n: return ('word', n.field) .. -/
  | met (e : E) (hs : List (Nat × Str × Nat))
  | pas | brk | cnt
  /-- a statement that is not served -/
  | no
inductive Ss where | nil | cons (s : St) (r : Ss)
end

/-- what stands at ref k -/
inductive O where
  | lst (xs : List D)
  /-- a list that is never written (the script) -/
  | fro (xs : List D)
  | dct (kvs : List (Key × D))
  /-- a lambda: parameters, captured names (they stand behind the parameters), slots, its body; its captured cells -/
  | clo (np nf ns : Nat) (body : E) (cs : List Nat)

/-- n the number of heap objects made, h the heap; m the number of cells made, c what they hold -/
structure S where
  n : Nat
  h : Tr O
  m : Nat
  c : Tr (Option D)

/-- an end: a value; an error of the class number c with its fields; a stop (nothing is claimed) -/
inductive R (α : Type) where
  | ok (a : α) (s : S)
  | ex (c : Nat) (vs : List D) (s : S)
  | bad

namespace R
variable {α β : Type}
def bind (r : R α) (f : α → S → R β) : R β := match r with
  | .ok a s => f a s
  | .ex c vs s => .ex c vs s
  | .bad => .bad
@[simp] theorem bind_ok (a : α) (s : S) (f : α → S → R β) : (R.ok a s).bind f = f a s := rfl
@[simp] theorem bind_ex (c : Nat) (vs : List D) (s : S) (f : α → S → R β) : (R.ex c vs s : R α).bind f = .ex c vs s := rfl
@[simp] theorem bind_bad (f : α → S → R β) : (R.bad : R α).bind f = .bad := rfl
end R

/-- the slots of the frame; which of them are cells -/
structure Env where
  σ : List (Option D)
  ce : List (Option Nat)

/-- a def: parameters, slots, the slots that are cells, its body -/
structure Fn where
  np : Nat
  ns : Nat
  cs : List Nat
  body : Ss
/-- a program: its defs, its error classes (number of the parent class, none: ValueError; the fields) -/
structure Pg where
  fns : List Fn
  cls : List (Option Nat × List Str)

/-! ### operations -/
def line : Nat := 16777216
def okLine (n : Nat) : Bool := Nat.ble n line
def S.alloc (s : S) (o : O) : R D := .ok (.ref s.n) { s with n := s.n + 1, h := s.h.put s.n (some o) }
def S.set (s : S) (k : Nat) (o : O) : S := { s with h := s.h.put k (some o) }
def S.newL (s : S) (xs : List D) : R D := bif okLine xs.length then s.alloc (.lst xs) else .bad
def newT (s : S) (xs : List D) : R D := bif okLine xs.length then .ok (.tup xs) s else .bad
/-- a list's items -/
def S.lstAt (s : S) (k : Nat) : Option (List D) := match s.h.get k with
  | some (.lst xs) => some xs
  | some (.fro xs) => some xs
  | _ => none
/-- a list's items, that may be written -/
def S.lstMut (s : S) (k : Nat) : Option (List D) := match s.h.get k with
  | some (.lst xs) => some xs
  | _ => none
def S.dctAt (s : S) (k : Nat) : Option (List (Key × D)) := match s.h.get k with
  | some (.dct kvs) => some kvs
  | _ => none

def truth (s : S) : D → Option Bool
  | .non => some false
  | .bl b => some b
  | .int i => some (i != 0)
  | .str x => bif okLine x.cps.size then some (x.cps.size != 0) else none
  | .tup xs => some (!xs.isEmpty)
  | .ref k => match s.lstAt k with
    | some xs => some (!xs.isEmpty)
    | none => match s.dctAt k with
      | some kvs => some (!kvs.isEmpty)
      | none => none

def mapO {α β : Type} (f : α → Option β) : List α → Option (List β)
  | [] => some []
  | a :: r => match f a, mapO f r with
    | some b, some bs => some (b :: bs)
    | _, _ => none
/-- the plain data that a value is -/
def toD (s : S) : Nat → D → Option PyData
  | 0, _ => none
  | f + 1, d => match d with
    | .non => some .none
    | .bl b => some (.bool b)
    | .int i => some (.int i)
    | .str x => bif x.cps.all (· < 0x110000) then some (.str x) else none
    | .tup xs => (mapO (toD s f) xs).map .tuple
    | .ref k => match s.lstAt k with
      | some xs => (mapO (toD s f) xs).map .list
      | none => none
def eqW (s : S) (a b : D) : Option Bool := match a, b with
  | .int i, .int j => some (i == j)
  | a, b => match toD s 40 a, toD s 40 b with
    | some d, some e => some (PyData.eqv d e)
    | _, _ => none

def tyOf (s : S) : D → Option (Option Ty)
  | .non => some none
  | .bl _ => some (some .bool)
  | .int _ => some (some .int)
  | .str _ => some (some .str)
  | .tup _ => some (some .tuple)
  | .ref k => match s.lstAt k with
    | some _ => some (some .list)
    | none => match s.dctAt k with
      | some _ => some (some .dict)
      | none => none
def instB (t : Option Ty) (u : Ty) : Bool := match t with
  | some t => t == u || (t == .bool && u == .int)
  | none => false

def bits (i : Int) : Nat := i.natAbs.log2
def allInt : List D → Option (List Int)
  | [] => some []
  | .int i :: r => (allInt r).map (i :: ·)
  | _ => none
def allBl : List D → Option (List Bool)
  | [] => some []
  | .bl b :: r => (allBl r).map (b :: ·)
  | _ => none
def ltInts : List Int → List Int → Bool
  | [], [] => false
  | [], _ :: _ => true
  | _ :: _, [] => false
  | i :: xs, j :: ys => bif i == j then ltInts xs ys else decide (i < j)
/-- a sequence: is it a tuple, its items -/
def seqOf (s : S) : D → Option (Bool × List D)
  | .tup xs => some (true, xs)
  | .ref k => (s.lstAt k).map fun xs => (false, xs)
  | _ => none
/-- the place of an index -/
def ixN (n : Nat) (i : Int) : Option Nat := bif decide (0 ≤ i) then (bif decide (i < n) then some i.toNat else none) else (bif decide (-(n : Int) ≤ i) then some (i + n).toNat else none)

def binW (o : Bo) (s : S) (a b : D) : R D := match o, a, b with
  | .add, .int i, .int j => .ok (.int (i + j)) s
  | .sub, .int i, .int j => .ok (.int (i - j)) s
  | .mul, .int i, .int j => bif Nat.blt (bits i + bits j) 1000000 then .ok (.int (i * j)) s else .bad
  | .fdiv, .int i, .int j => bif decide (0 < j) && Nat.blt (bits j) 9000 then .ok (.int (i / j)) s else bif decide (j ≠ 0) && Nat.blt j.natAbs 1073741824 then .ok (.int (i.fdiv j)) s else .bad
  | .mod, .int i, .int j => bif decide (0 < j) then .ok (.int (i % j)) s else bif decide (j ≠ 0) then .ok (.int (i.fmod j)) s else .bad
  | .pow, .int i, .int j => bif decide (0 ≤ j) && decide (j ≤ 1000000) && Nat.blt i.natAbs (2 ^ 64) then .ok (.int (i ^ j.toNat)) s else .bad
  | .add, .ref k, .ref l => match s.lstMut k, s.lstMut l with
    | some xs, some ys => s.newL (xs ++ ys)
    | _, _ => .bad
  | .add, .tup xs, .tup ys => newT s (xs ++ ys)
  | _, _, _ => .bad

/-- x op= y, in place for what is changed in place: ints alone -/
def augW (o : Bo) (s : S) (a b : D) : R D := match o, a, b with
  | .add, .int i, .int j => .ok (.int (i + j)) s
  | .sub, .int i, .int j => .ok (.int (i - j)) s
  | .mul, .int i, .int j => bif Nat.blt (bits i + bits j) 1000000 then .ok (.int (i * j)) s else .bad
  | .fdiv, .int i, .int j => bif decide (0 < j) && Nat.blt j.natAbs 1073741824 then .ok (.int (i / j)) s else .bad
  | .mod, .int i, .int j => bif decide (0 < j) then .ok (.int (i % j)) s else .bad
  | _, _, _ => .bad

def isNon : D → Bool
  | .non => true
  | _ => false
def cmpW (o : Co) (s : S) (a b : D) : R D := match o with
  | .eq => match eqW s a b with | some r => .ok (.bl r) s | none => .bad
  | .ne => match eqW s a b with | some r => .ok (.bl (!r)) s | none => .bad
  | .lt => match a, b with
    | .int i, .int j => .ok (.bl (decide (i < j))) s
    | .tup xs, .tup ys => match allInt xs, allInt ys with | some ns, some ms => .ok (.bl (ltInts ns ms)) s | _, _ => .bad
    | _, _ => .bad
  | .le => match a, b with | .int i, .int j => .ok (.bl (decide (i ≤ j))) s | _, _ => .bad
  | .gt => match a, b with | .int i, .int j => .ok (.bl (decide (j < i))) s | _, _ => .bad
  | .ge => match a, b with | .int i, .int j => .ok (.bl (decide (j ≤ i))) s | _, _ => .bad
  | .isn => match b with | .non => .ok (.bl (isNon a)) s | _ => .bad
  | .notn => match b with | .non => .ok (.bl (!isNon a)) s | _ => .bad

/-- compared with a list that is made for it and holds nothing -/
def nilW (o : Co) (s : S) (a : D) : R D := match toD s 40 a with
  | some d => (match o with
    | .eq => .ok (.bl (PyData.eqv d (.list []))) s
    | .ne => .ok (.bl (!PyData.eqv d (.list []))) s
    | _ => .bad)
  | none => .bad

/-- x[i] -/
def idxW (s : S) (a i : D) : R D := match i with
  | .int j => match seqOf s a with
    | some (_, xs) => match (ixN xs.length j).bind (xs[·]?) with | some d => .ok d s | none => .bad
    | none => .bad
  | _ => .bad

/-- a slice's place -/
def sIx (n d : Nat) : Option Int → Nat
  | none => d
  | some i => bif decide (i < 0) then (i + n).toNat else min i.toNat n
def cut {α : Type} (xs : List α) (lo hi : Option Int) : List α := (xs.drop (sIx xs.length 0 lo)).take (sIx xs.length xs.length hi - sIx xs.length 0 lo)
def slW (s : S) (a : D) (lo hi : Option Int) : R D := match seqOf s a with
  | some (false, xs) => s.alloc (.lst (cut xs lo hi))
  | some (true, xs) => .ok (.tup (cut xs lo hi)) s
  | none => .bad

/-- the columns of rows, as many as the shortest has -/
def colsF : Nat → List (List D) → List (List D)
  | 0, _ => []
  | f + 1, rows => bif rows.any (·.isEmpty) then [] else rows.map (fun r => r.headD .non) :: colsF f (rows.map (·.tailD []))
def cols (rows : List (List D)) : List (List D) := match rows with
  | [] => []
  | r :: _ => colsF r.length rows
/-- tuples' items -/
def tupsOf : List D → Option (List (List D))
  | [] => some []
  | .tup xs :: r => (tupsOf r).map (xs :: ·)
  | _ => none

def keyD : Key → D
  | .inl i => .int i
  | .inr x => .str x
def lenW (s : S) (d : D) : R D := match d with
  | .str x => bif okLine x.cps.size then .ok (.int x.cps.size) s else .bad
  | d => match seqOf s d with
    | some p => .ok (.int p.2.length) s
    | none => .bad
def instW (ts : List Ty) (s : S) (d : D) : R D := match tyOf s d with
  | some t => .ok (.bl (ts.any (instB t))) s
  | none => .bad
def tupleW (s : S) (d : D) : R D := match seqOf s d with
  | some p => .ok (.tup p.2) s
  | none => .bad
def listW (s : S) (d : D) : R D := match seqOf s d with
  | some p => s.alloc (.lst p.2)
  | none => .bad
def intW (s : S) (d : D) : R D := match d with
  | .int i => .ok (.int i) s
  | .bl b => .ok (.int (bif b then 1 else 0)) s
  | _ => .bad
def absW (s : S) (d : D) : R D := match d with
  | .int i => .ok (.int (bif decide (i < 0) then -i else i)) s
  | _ => .bad
/-- a list's items, of a value -/
def lstOf (s : S) (d : D) : Option (List D) := match d with
  | .ref k => s.lstAt k
  | _ => none
def allW (s : S) (d : D) : R D := match (lstOf s d).bind allBl with
  | some bs => .ok (.bl (bs.all id)) s
  | none => .bad
def sumW (s : S) (d : D) : R D := match (lstOf s d).bind allInt with
  | some ns => .ok (.int ns.sum) s
  | none => .bad
def itemsW (s : S) (d : D) : R D := match d with
  | .ref k => match s.dctAt k with
    | some [] => s.alloc (.lst [])
    | _ => .bad
  | _ => .bad
/-- the rows of a sequence of tuples, one at least -/
def rowsW (s : S) (d : D) : Option (List (List D)) := match seqOf s d with
  | some p => match tupsOf p.2 with
    | some (r :: rs) => some (r :: rs)
    | _ => none
  | none => none
def zipTW (s : S) (d : D) : R D := match rowsW s d with
  | some rs => newT s ((cols rs).map .tup)
  | none => .bad
def buW (b : Bu) (s : S) (d : D) : R D := match b with
  | .len => lenW s d
  | .inst ts => instW ts s d
  | .tuple => tupleW s d
  | .list => listW s d
  | .int => intW s d
  | .abs => absW s d
  | .all => allW s d
  | .sum => sumW s d
  | .items => itemsW s d
  | .zipT => zipTW s d
def divmodW (s : S) (a b : D) : R D := match a, b with
  | .int i, .int j => bif decide (0 < j) && decide (j < 1073741824) then .ok (.tup [.int (i / j), .int (i % j)]) s else .bad
  | _, _ => .bad

def rngOk (i : Int) : Bool := decide (-(2 ^ 62) ≤ i) && decide (i < 2 ^ 62)
/-- a method of a list -/
def meL (m : Me) (s : S) (k : Nat) (xs : List D) (vs : List D) : R D := match m, vs with
  | .append, [v] => bif Nat.blt xs.length line then .ok .non (s.set k (.lst (xs ++ [v]))) else .bad
  | .extend, [.ref l] => match s.lstMut l with
    | some ys => bif okLine (xs.length + ys.length) then .ok .non (s.set k (.lst (xs ++ ys))) else .bad
    | none => .bad
  | .pop, [] => match xs[xs.length - 1]? with
    | some w => .ok w (s.set k (.lst xs.dropLast))
    | none => .bad
  | .pop, [.int i] => match ixN xs.length i with
    | some j => match xs[j]? with | some w => bif rngOk i then .ok w (s.set k (.lst (xs.eraseIdx j))) else .bad | none => .bad
    | none => .bad
  | _, _ => .bad
def meW (m : Me) (s : S) (a : D) (vs : List D) : R D := match a with
  | .ref k => match s.lstMut k with
    | some xs => meL m s k xs vs
    | none => .bad
  | _ => .bad
/-- a list -/
def isLst (s : S) : D → Bool
  | .ref k => (s.lstAt k).isSome
  | _ => false
/-- a lambda -/
def isClo (s : S) : D → Bool
  | .ref k => match s.h.get k with
    | some (.clo _ _ _ _ _) => true
    | _ => false
  | _ => false
/-- x[i] = w -/
def setW (s : S) (a i w : D) : R Unit := match a, i with
  | .ref k, .int j => match s.lstMut k with
    | some xs => match ixN xs.length j with | some p => .ok () (s.set k (.lst (xs.set p w))) | none => .bad
    | none => .bad
  | _, _ => .bad

/-! ### frames -/
def Env.get (e : Env) (i : Nat) : Option D := (e.σ[i]?).join
/-- name = value -/
def Env.put (e : Env) (i : Nat) (w : D) (s : S) : R Env := match e.ce[i]? with
  | some (some c) => .ok { e with σ := e.σ.set i (some w) } { s with c := s.c.put c (some (some w)) }
  | some none => .ok { e with σ := e.σ.set i (some w) } s
  | none => .bad
mutual
def putNt (e : Env) (s : S) (t : Nt) (w : D) : R Env := match t with
  | .v i => e.put i w s
  | .t l => match w with
    | .tup xs => putNts e s l xs
    | _ => .bad
def putNts (e : Env) (s : S) (l : List Nt) (ws : List D) : R Env := match l, ws with
  | [], [] => .ok e s
  | t :: ts, w :: ws => (putNt e s t w).bind fun e s => putNts e s ts ws
  | _, _ => .bad
end

/-- a walked list: in the heap, or a tuple's items -/
inductive Sq where | val (xs : List D) | box (k : Nat)
def Sq.items (s : S) : Sq → Option (List D)
  | .val xs => some xs
  | .box k => s.lstAt k
/-- a walked thing -/
inductive Ri where
  | seq (q : Sq)
  | rng (lo : Int) (n : Nat)
  | zip (p q : Sq)
  | en (q : Sq)
  | mny (rows : List (List D))
/-- its turn i: none, a stop of ours; some none: it is at its end -/
def Ri.next (r : Ri) (s : S) (i : Nat) : Option (Option D) := match r with
  | .seq q => (q.items s).map fun xs => xs[i]?
  | .rng lo n => some (bif Nat.blt i n then some (.int (lo + i)) else none)
  | .zip p q => match p.items s, q.items s with
    | some xs, some ys => some (match xs[i]?, ys[i]? with | some x, some y => some (.tup [x, y]) | _, _ => none)
    | _, _ => none
  | .en q => (q.items s).map fun xs => (xs[i]?).map fun d => .tup [.int i, d]
  | .mny rows => some ((rows[i]?).map .tup)

/-- a list or a tuple; is it a tuple -/
def sqOf (s : S) : D → Option (Bool × Sq)
  | .tup xs => some (true, .val xs)
  | .ref k => (s.lstAt k).map fun _ => (false, .box k)
  | _ => none
def openRange : List D → Option Ri
  | [.int hi] => bif rngOk hi then some (.rng 0 hi.toNat) else none
  | [.int lo, .int hi] => bif rngOk lo && rngOk hi then some (.rng lo (hi - lo).toNat) else none
  | _ => none
def openZip (s : S) (v w : D) : Option Ri := match sqOf s v, sqOf s w with
  | some p, some q => bif p.1 == q.1 then some (.zip p.2 q.2) else none
  | _, _ => none
def openEn (s : S) (v : D) : Option Ri := match sqOf s v with
  | some p => bif p.1 then none else some (.en p.2)
  | none => none

/-- the most turns of a loop -/
def most : Nat := 33554432

inductive Fl where
  | nx (e : Env) | rt (w : D) | bk (e : Env) | ct (e : Env)

def wipe (σ : List (Option D)) : List Nat → List (Option D)
  | [] => σ
  | v :: vs => (wipe σ vs).set v none
/-- the cells of a comprehension's own variables, or of a def's -/
def newCells (ce : List (Option Nat)) (s : S) : List Nat → List (Option Nat) × S
  | [] => (ce, s)
  | i :: r => newCells (ce.set i (some s.m)) { s with m := s.m + 1, c := s.c.put s.m (some none) } r
def dropCells (ce : List (Option Nat)) (s : S) : List Nat → S
  | [] => s
  | i :: r => match ce[i]? with
    | some (some c) => dropCells ce { s with c := s.c.put c none } r
    | _ => dropCells ce s r

def resetCells (ce : List (Option Nat)) (s : S) : List Nat → S
  | [] => s
  | i :: r => match ce[i]? with
    | some (some c) => resetCells ce { s with c := s.c.put c (some none) } r
    | _ => resetCells ce s r
/-- an error within a comprehension is not served -/
def R.noEx {α : Type} : R α → R α
  | .ok a s => .ok a s
  | _ => .bad
/-- the turns of a comprehension: acc the new list's items -/
def compLoop (next : S → Nat → Option (Option D)) (asg : S → D → R Env) (test : Env → S → R Bool) (elt : Env → S → R D) : Nat → Nat → List D → S → R (List D)
  | 0, _, _, _ => .bad
  | f + 1, i, acc, s => match next s i with
    | none => .bad
    | some none => .ok acc s
    | some (some y) => (asg s y).noEx.bind fun e s => (test e s).noEx.bind fun b s => bif b then (elt e s).noEx.bind fun w s => compLoop next asg test elt f (i + 1) (w :: acc) s else compLoop next asg test elt f (i + 1) acc s

def permW (pm : List Nat) (ws : List D) : Option (List D) := match pm with
  | [] => some ws
  | pm => mapO (fun i => ws[i]?) pm
def negW (s : S) : D → R D
  | .int i => .ok (.int (-i)) s
  | _ => .bad
def truthR (s : S) (w : D) : R Bool := match truth s w with | some b => .ok b s | none => .bad
def intR (s : S) (w : D) : R (Option Int) := match w with | .int i => .ok (some i) s | _ => .bad
def ofO {α : Type} (s : S) : Option α → R α
  | some a => .ok a s
  | none => .bad
def cellsAt (ce : List (Option Nat)) (js : List Nat) : Option (List Nat) := mapO (fun j => (ce[j]?).join) js

section
variable (callF : Nat → List D → S → R D) (callV : D → List D → S → R D)
mutual
def evE (e : E) (en : Env) (s : S) : R D := match e with
  | .int i => .ok (.int i) s
  | .bl b => .ok (.bl b) s
  | .non => .ok .non s
  | .str x => .ok (.str x) s
  | .var i => ofO s (en.get i)
  | .tup es => (evEs es en s).bind fun ws s => newT s ws
  | .lst es => (evEs es en s).bind fun ws s => s.newL ws
  | .dct0 => s.alloc (.dct [])
  | .bin o a b => (evE a en s).bind fun x s => (evE b en s).bind fun y s => binW o s x y
  | .neg a => (evE a en s).bind fun x s => negW s x
  | .not a => (evE a en s).bind fun x s => (truthR s x).bind fun b s => .ok (.bl (!b)) s
  | .cmp o a b => (evE a en s).bind fun x s => (evE b en s).bind fun y s => cmpW o s x y
  | .nilc o a => (evE a en s).bind fun x s => nilW o s x
  | .chain o p a b c => (evE a en s).bind fun x s => (evE b en s).bind fun y s => (cmpW o s x y).bind fun r s => match r with
    | .bl true => (evE c en s).bind fun z s => cmpW p s y z
    | .bl false => .ok (.bl false) s
    | _ => .bad
  | .and a b => (evE a en s).bind fun x s => (truthR s x).bind fun k s => bif k then evE b en s else .ok x s
  | .or a b => (evE a en s).bind fun x s => (truthR s x).bind fun k s => bif k then .ok x s else evE b en s
  | .ite c a b => (evE c en s).bind fun x s => (truthR s x).bind fun k s => bif k then evE a en s else evE b en s
  | .idx a i => (evE a en s).bind fun x s => (evE i en s).bind fun y s => idxW s x y
  | .sl a lo hi => (evE a en s).bind fun x s => (evO lo en s).bind fun l s => (evO hi en s).bind fun h s => slW s x l h
  | .call f pm es ks => (evEs es en s).bind fun ws s => (evEs ks en s).bind fun us s => (ofO s (permW pm (ws ++ us))).bind fun ws s => callF f ws s
  | .bu b a => (evE a en s).bind fun x s => buW b s x
  | .divmod a b => (evE a en s).bind fun x s => (evE b en s).bind fun y s => divmodW s x y
  | .me m a es => (evE a en s).bind fun x s => bif isLst s x then (evEs es en s).bind fun ws s => meW m s x ws else .bad
  | .vcall a es => (evE a en s).bind fun x s => bif isClo s x then (evEs es en s).bind fun ws s => callV x ws s else .bad
  | .comp own cells tg it ifs elt => (evI it en s).bind fun r s =>
    let p := newCells en.ce s cells
    (compLoop r.next (fun s y => putNt ⟨wipe en.σ own, p.1⟩ (resetCells p.1 s cells) tg y) (fun e s => evT ifs e s) (fun e s => evE elt e s) line 0 [] p.2).bind fun acc s => (dropCells p.1 s cells).newL acc.reverse
  | .lam np nf ns body js => (ofO s (cellsAt en.ce js)).bind fun cs s => s.alloc (.clo np nf ns body cs)
def evEs (es : Es) (en : Env) (s : S) : R (List D) := match es with
  | .nil => .ok [] s
  | .cons e r => (evE e en s).bind fun w s => (evEs r en s).bind fun ws s => .ok (w :: ws) s
def evO (o : Oe) (en : Env) (s : S) : R (Option Int) := match o with
  | .no => .ok none s
  | .yes e => (evE e en s).bind fun w s => intR s w
/-- all tests -/
def evT (es : Es) (en : Env) (s : S) : R Bool := match es with
  | .nil => .ok true s
  | .cons e r => (evE e en s).bind fun w s => (truthR s w).bind fun b s => bif b then evT r en s else .ok false s
def evI (it : It) (en : Env) (s : S) : R Ri := match it with
  | .seq e => (evE e en s).bind fun w s => ofO s ((sqOf s w).map fun p => .seq p.2)
  | .range es => (evEs es en s).bind fun ws s => ofO s (openRange ws)
  | .zip a b => (evE a en s).bind fun v s => (evE b en s).bind fun w s => ofO s (openZip s v w)
  | .enum e => (evE e en s).bind fun w s => ofO s (openEn s w)
  | .zipS e => (evE e en s).bind fun w s => ofO s ((rowsW s w).map fun rs => .mny (cols rs))
end

def forLoop (next : S → Nat → Option (Option D)) (asg : Env → S → D → R Env) (body : Env → S → R Fl) : Nat → Nat → Env → S → R Fl
  | 0, _, _, _ => .bad
  | f + 1, i, e, s => match next s i with
    | none => .bad
    | some none => .ok (.nx e) s
    | some (some y) => (asg e s y).noEx.bind fun e s => (body e s).bind fun r s => match r with
      | .nx e => forLoop next asg body f (i + 1) e s
      | .ct e => forLoop next asg body f (i + 1) e s
      | .bk e => .ok (.nx e) s
      | .rt w => .ok (.rt w) s
def whlLoop (test : Env → S → R Bool) (body : Env → S → R Fl) : Nat → Env → S → R Fl
  | 0, _, _ => .bad
  | f + 1, e, s => (test e s).bind fun b s => bif b then (body e s).bind fun r s => match r with
      | .nx e => whlLoop test body f e s
      | .ct e => whlLoop test body f e s
      | .bk e => .ok (.nx e) s
      | .rt w => .ok (.rt w) s
    else .ok (.nx e) s

def putTg (t : Tg) (en : Env) (s : S) (w : D) : R Env := match t with
  | .nm t => putNt en s t w
  | .sub a i => (evE callF callV a en s).bind fun x s => (evE callF callV i en s).bind fun y s => (setW s x y w).bind fun _ s => .ok en s
def putEach (l : List Tg) (en : Env) (s : S) (ws : List D) : R Env := match l, ws with
  | [], [] => .ok en s
  | t :: ts, w :: ws => (putTg callF callV t en s w).bind fun en s => putEach ts en s ws
  | _, _ => .bad
def putsRev (l : List Nat) (ws : List D) (en : Env) (s : S) : R Env := match l, ws with
  | [], [] => .ok en s
  | i :: l, w :: ws => (putsRev l ws en s).bind fun en s => en.put i w s
  | _, _ => .bad
/-- is the class c the class d or below it -/
def isSub (cls : List (Option Nat × List Str)) : Nat → Nat → Nat → Bool
  | 0, _, _ => false
  | f + 1, c, d => Nat.beq c d || match cls[c]? with | some (some p, _) => isSub cls f p d | _ => false

variable (cls : List (Option Nat × List Str))
/-- the except clauses: the class, the word, the field -/
def evH (hs : List (Nat × Str × Nat)) (c : Nat) (vs : List D) (s : S) : R Fl := match hs with
  | [] => .ex c vs s
  | (d, x, i) :: r => bif isSub cls 20 c d then (ofO s (vs[i]?)).bind fun w s => .ok (.rt (.tup [.str x, w])) s else evH r c vs s
mutual
def evS (st : St) (en : Env) (s : S) : R Fl := match st with
  | .asg t e => (evE callF callV e en s).bind fun w s => (putTg callF callV t en s w).noEx.bind fun en s => .ok (.nx en) s
  | .asgs l es => (evEs callF callV es en s).bind fun ws s => (putEach callF callV l en s ws).noEx.bind fun en s => .ok (.nx en) s
  | .par l es => (evEs callF callV es en s).bind fun ws s => (putsRev l ws en s).noEx.bind fun en s => .ok (.nx en) s
  | .aug i o e => (ofO s (en.get i)).bind fun x s => (evE callF callV e en s).bind fun y s => (augW o s x y).bind fun z s => (en.put i z s).noEx.bind fun en s => .ok (.nx en) s
  | .ex e => (evE callF callV e en s).bind fun _ s => .ok (.nx en) s
  | .ite c a b => (evE callF callV c en s).bind fun x s => (truthR s x).bind fun k s => bif k then evSs a en s else evSs b en s
  | .for_ t it b => (evI callF callV it en s).bind fun r s => forLoop r.next (fun e s y => putNt e s t y) (fun e s => evSs b e s) most 0 en s
  | .whl c b => whlLoop (fun e s => (evE callF callV c e s).bind fun x s => truthR s x) (fun e s => evSs b e s) most en s
  | .ret e => (evE callF callV e en s).bind fun w s => .ok (.rt w) s
  | .retN => .ok (.rt .non) s
  | .rais c es => (evEs callF callV es en s).bind fun ws s => match cls[c]? with
    | some (_, fs) => bif Nat.beq fs.length ws.length then .ex c ws s else .bad
    | none => .bad
  | .met e hs => match evE callF callV e en s with
    | .ok w s => .ok (.rt w) s
    | .ex c vs s => evH cls hs c vs s
    | .bad => .bad
  | .pas => .ok (.nx en) s
  | .brk => .ok (.bk en) s
  | .cnt => .ok (.ct en) s
  | .no => .bad
def evSs (b : Ss) (en : Env) (s : S) : R Fl := match b with
  | .nil => .ok (.nx en) s
  | .cons st r => (evS st en s).bind fun f s => match f with
    | .nx en => evSs r en s
    | f => .ok f s
end
end
end Ev
/-! EvB: calls, and the translator from the text's trees to the core. -/
namespace Ev
open PySem

/-- a def's frame -/
def enter (F : Fn) (ws : List D) (s : S) : Env × S :=
  let p := newCells (List.replicate F.ns none) s F.cs
  -- the parameters that are cells hold their arguments
  let c := F.cs.foldl (fun c i => match (p.1[i]?).join, ws[i]? with
    | some a, some w => c.put a (some (some w))
    | _, _ => c) p.2.c
  (⟨ws.map some ++ List.replicate (F.ns - ws.length) none, p.1⟩, { p.2 with c := c })
def leave : Fl → S → R D
  | .nx _, s => .ok .non s
  | .rt w, s => .ok w s
  | _, _ => .bad
def cellVals (s : S) (cs : List Nat) : Option (List (Option D)) := mapO (fun c => s.c.get c) cs
/-- the cells of a def's frame are forgotten -/
def R.drop {α : Type} (ce : List (Option Nat)) (cs : List Nat) : R α → R α
  | .ok a s => .ok a (dropCells ce s cs)
  | .ex c vs s => .ex c vs (dropCells ce s cs)
  | .bad => .bad
mutual
/-- a call with n calls within one another -/
def callF (P : Pg) : Nat → Nat → List D → S → R D
  | 0, _, _, _ => .bad
  | n + 1, f, ws, s => match P.fns[f]? with
    | some F => bif Nat.beq ws.length F.np then
        (let p := enter F ws s
        ((evSs (callF P n) (callV P n) P.cls F.body p.1 p.2).bind fun f s => leave f s).drop p.1.ce F.cs) else .bad
    | none => .bad
def callV (P : Pg) : Nat → D → List D → S → R D
  | 0, _, _, _ => .bad
  | n + 1, v, ws, s => match v with
    | .ref k => match s.h.get k with
      | some (.clo np nf ns body cs) => match cellVals s cs with
        | some vs => bif Nat.beq ws.length np && Nat.beq vs.length nf then
            evE (callF P n) (callV P n) body ⟨ws.map some ++ (vs ++ List.replicate (ns - np - nf) none), List.replicate np none ++ (cs.map some ++ List.replicate (ns - np - nf) none)⟩ s
          else .bad
        | none => .bad
      | _ => .bad
    | _ => .bad
end

/-! ### the translator -/
/-- what is known of the text -/
structure Tx where
  /-- its defs: names, parameters -/
  fns : List (Str × List Str)
  /-- its error classes: names, fields -/
  cls : List (Str × List Str)
  /-- the calls with keywords: the def, how many arguments are written ahead, the keywords -/
  kcs : List (Nat × Nat × List Str)
structure Ctx where
  T : Tx
  N : List Str
  sc : Scope
  /-- where lambdas stand (line, column), their slots' names (parameters, captured ones, others), the captured names -/
  lams : List (Nat × Nat × List Str × List Str)
  /-- the slots that lambdas capture -/
  cs : List Nat

def okNm (x : Str) : Bool := !(x == ("__debug__" : Str)) && !(x == ("__classdict__" : Str))
def vis (k : Option NameKind) : Bool := k == some .local || k == some .cell || k == some .free
def Ctx.slot (C : Ctx) (x : Str) : Option Nat := bif vis (C.sc.names.lookup x) && okNm x then C.N.findIdx? (· == x) else none
/-- a name that may be stored to -/
def Ctx.slotW (C : Ctx) (x : Str) : Option Nat := bif (C.sc.names.lookup x == some .local) || (C.sc.names.lookup x == some .cell) then C.N.findIdx? (· == x) else none
def isGl (C : Ctx) (x : Str) : Bool := (C.sc.names.lookup x == some .globalImplicit) && okNm x
/-- a built-in's name, not bound by the text -/
def isBu (C : Ctx) (x : Str) : Bool := isGl C x && !(C.T.fns.any fun p => p.1 == x) && !(C.T.cls.any fun p => p.1 == x)

def tyNames : List (Str × Ty) := [("list", .list), ("tuple", .tuple), ("int", .int), ("bool", .bool), ("str", .str), ("dict", .dict)]
def trTy (C : Ctx) : Expr → Option Ty
  | .Name x _ => bif isBu C x then tyNames.lookup x else none
  | _ => none
def trTys (C : Ctx) : Expr → Option (List Ty)
  | .Tuple es _ _ => bif Nat.ble es.length 30 then mapO (trTy C) es else none
  | e => (trTy C e).map fun t => [t]
def buNames : List (Str × Bu) := [("len", .len), ("tuple", .tuple), ("list", .list), ("int", .int), ("abs", .abs), ("all", .all), ("sum", .sum)]
def trMe (m : Str) (n : Nat) : Option Me := bif m == ("append" : Str) && Nat.beq n 1 then some .append else bif m == ("extend" : Str) && Nat.beq n 1 then some .extend else bif m == ("pop" : Str) && Nat.ble n 1 then some .pop else none
def trBo : Operator → Option Bo
  | .Add => some .add | .Sub => some .sub | .Mult => some .mul | .FloorDiv => some .fdiv | .Mod => some .mod | .Pow => some .pow
  | _ => none
def trCo : CmpOp → Option Co
  | .Eq => some .eq | .NotEq => some .ne | .Lt => some .lt | .LtE => some .le | .Gt => some .gt | .GtE => some .ge
  | .Is => some .isn | .IsNot => some .notn
  | _ => none
def trNl : CmpOp → Option Co
  | .Eq => some .eq | .NotEq => some .ne
  | _ => none
/-- where each parameter's argument stands among the n positional ones and the keywords ks -/
def permOf (ps : List Str) (n : Nat) (ks : List Str) : Option (List Nat) :=
  mapO (fun i => bif Nat.blt i n then some i else match ps[i]? with
    | some p => (ks.findIdx? (· == p)).map (n + ·)
    | none => none) (List.range ps.length)
def trNt (C : Ctx) : Nat → Expr → Option Nt
  | 0, _ => none
  | n + 1, e => match e with
    | .Name x _ => (C.slotW x).map .v
    | .Tuple es _ _ => (mapO (trNt C n) es).map .t
    | _ => none
/-- the comprehension's own names, with their slots -/
def ownOf (C : Ctx) (scope : Scope) : List (Str × Nat) := scope.names.filterMap fun p => bif p.2 == .local || p.2 == .cell then (C.N.findIdx? (· == p.1)).map fun i => (p.1, i) else none
def cellsOf (C : Ctx) (scope : Scope) : List Nat := scope.names.filterMap fun p => bif p.2 == .cell then (C.N.findIdx? (· == p.1)).bind fun i => bif C.cs.contains i then some i else none else none

/-- what a comprehension's names must be; the cells that lambdas capture are seen in it -/
def compOk (C : Ctx) (scope : Scope) : Bool := L2.blkC C.N C.sc scope (ownOf C scope) && decide (cellsOf C scope).Nodup && C.cs.all fun i => match C.N[i]? with
  | some x => !vis (C.sc.names.lookup x) || scope.names.lookup x == some .free
  | none => true
def isCall0 : Expr → Bool
  | .Call .. => true
  | _ => false
def isTup : Expr → Bool
  | .Tuple .. => true
  | _ => false
def paramsOf (a : Arguments) : List Str := a.args.map (·.arg)
def plainArgs (a : Arguments) : Bool := a.posonlyargs.isEmpty && a.vararg.isNone && a.kwonlyargs.isEmpty && a.kw_defaults.isEmpty && a.kwarg.isNone && a.defaults.isEmpty
/-- a lambda's names: parameters (plain ones), captured ones, others -/
def lamOkB (N : List Str) (args : Arguments) (fr : List Str) (sc : Scope) : Bool :=
  decide (sc.kind = .function) && !sc.isCoroutine && !sc.isGenerator && decide N.Nodup && decide (N.take ((paramsOf args).length + fr.length) = paramsOf args ++ fr) && (paramsOf args).all (fun x => decide (sc.names.lookup x = some .local)) && sc.names.all (fun y => !decide (y.2 = .cell)) && sc.names.all (fun y => !decide (y.2 = .free) || decide (y.1 ∈ fr)) && fr.all (fun x => decide (sc.names.lookup x = some .free)) && plainArgs args
/-- where a lambda's body stands: its captured names are cells -/
def lamC (T : Tx) (N : List Str) (sc : Scope) (args : Arguments) (fr : List Str) : Ctx := ⟨T, N, sc, [], List.range' args.args.length fr.length⟩
mutual
def trE (n : Nat) (C : Ctx) (e : Expr) : Option E := match n with
  | 0 => none
  | n + 1 => match e with
    | .Constant (.int i) _ _ => some (.int i)
    | .Constant (.bool b) _ _ => some (.bl b)
    | .Constant .none _ _ => some .non
    | .Constant (.str x) _ _ => some (.str x)
    | .Name x _ => (C.slot x).map .var
    | .Tuple es _ _ => (trL n C es).map .tup
    | .List es _ => (trL n C es).map .lst
    | .Dict [] [] _ => some .dct0
    | .BinOp a o b _ => match trE n C a, trBo o, trE n C b with
      | some a, some o, some b => some (.bin o a b)
      | _, _, _ => none
    | .UnaryOp .USub a _ => (trE n C a).map .neg
    | .UnaryOp .Not a _ => (trE n C a).map .not
    | .Compare a [o] [.List [] _] _ => match trE n C a, trNl o with
      | some a, some o => some (.nilc o a)
      | _, _ => none
    | .Compare a [o] [b] _ => match trE n C a, trCo o, trE n C b with
      | some a, some o, some b => some (.cmp o a b)
      | _, _, _ => none
    | .Compare a [o, p] [b, c] _ => match trE n C a, trCo o, trE n C b, trCo p, trE n C c with
      | some a, some o, some b, some p, some c => some (.chain o p a b c)
      | _, _, _, _, _ => none
    | .BoolOp .And es _ => trAnd n C es
    | .BoolOp .Or es _ => trOr n C es
    | .IfExp c a b _ => match trE n C c, trE n C a, trE n C b with
      | some c, some a, some b => some (.ite c a b)
      | _, _, _ => none
    | .Subscript a i _ => trSub n C a i
    | .Call f es kws cp => trCall n C f es kws cp
    | .ListComp elt [⟨tg, it, ifs, ia⟩] scope _ =>
      bif decide (ia = 0) && Nat.ble ifs.length 1 && compOk C scope then (match trI n C (isTup tg) it, trNt { C with sc := scope } 5 tg, trL n { C with sc := L2.relS scope C.sc } ifs, trE n { C with sc := L2.relS scope C.sc } elt with
      | some it, some tg, some ifs, some elt => some (.comp ((ownOf C scope).map (·.2)) (cellsOf C scope) tg it ifs elt)
      | _, _, _, _ => none) else none
    | .Lambda args body scope pos => match C.lams.find? (fun p => Nat.beq p.1 pos.line && Nat.beq p.2.1 pos.col) with
      | some p => bif lamOkB p.2.2.1 args p.2.2.2 scope then (match trE n (lamC C.T p.2.2.1 scope args p.2.2.2) body, mapO C.slot p.2.2.2 with
        | some body, some js => some (.lam args.args.length p.2.2.2.length p.2.2.1.length body js)
        | _, _ => none) else none
      | none => none
    | _ => none
def trL (n : Nat) (C : Ctx) (es : List Expr) : Option Es := match n with
  | 0 => none
  | n + 1 => match es with
    | [] => some .nil
    | e :: r => match trE n C e, trL n C r with
      | some e, some r => some (.cons e r)
      | _, _ => none
def trSub (n : Nat) (C : Ctx) (a i : Expr) : Option E := match n with
  | 0 => none
  | n + 1 => match i with
    | .Slice lo hi none _ => match trE n C a, trO n C lo, trO n C hi with
      | some a, some lo, some hi => some (.sl a lo hi)
      | _, _, _ => none
    | i => match trE n C a, trE n C i with
      | some a, some i => some (.idx a i)
      | _, _ => none
def trCall (n : Nat) (C : Ctx) (f : Expr) (es : List Expr) (kws : List Keyword) (cp : Pos) : Option E := match n with
  | 0 => none
  | n + 1 => match f with
    | .Name x _ => match C.slot x with
      | some i => match kws with
        | [] => (trL n C es).map fun es => .vcall (.var i) es
        | _ => none
      | none => bif isGl C x then (match C.T.fns.findIdx? (fun p => p.1 == x) with
        | some f => trDef n C f es kws
        | none => bif isBu C x && kws.isEmpty then trBu n C x es else none) else none
    | .Attribute a m ap => match kws with
      | [] => bif ap.endLine == cp.line && !isCall0 a then match trE n C a, trMe m es.length, trL n C es with
        | some a, some m, some es => some (.me m a es)
        | _, _, _ => none else none
      | _ => none
    | _ => none
def trDef (n : Nat) (C : Ctx) (f : Nat) (es : List Expr) (kws : List Keyword) : Option E := match n with
  | 0 => none
  | n + 1 => match kws with
    | [] => match C.T.fns[f]? with
      | some p => bif Nat.beq p.2.length es.length then (trL n C es).map fun as => .call f [] as .nil else none
      | none => none
    | kws => match trL n C es, trL n C (kws.map (·.value)), mapO (fun k : Keyword => k.arg) kws, C.T.fns[f]? with
      | some as, some ks, some ns, some p => bif C.T.kcs.contains (f, es.length, ns) then (match permOf p.2 es.length ns with
        | some (i :: pm) => some (.call f (i :: pm) as ks)
        | _ => none) else none
      | _, _, _, _ => none
def trBu (n : Nat) (C : Ctx) (x : Str) (es : List Expr) : Option E := match n with
  | 0 => none
  | n + 1 => match es with
    | [a, t] => bif x == ("isinstance" : Str) then (match trE n C a, trTys C t with
        | some a, some ts => some (.bu (.inst ts) a)
        | _, _ => none)
      else bif x == ("divmod" : Str) then (match trE n C a, trE n C t with
        | some a, some b => some (.divmod a b)
        | _, _ => none)
      else none
    | [.Call (.Name y _) [.Starred a _] [] _] => bif x == ("tuple" : Str) && isBu C y && y == ("zip" : Str) then (trE n C a).map fun a => .bu .zipT a else none
    | [.Call (.Attribute d m ap) [] [] cp] => bif x == ("list" : Str) && m == ("items" : Str) && ap.endLine == cp.line && !isCall0 d then (trE n C d).map fun d => .bu .items d else none
    | [a] => match buNames.lookup x, trE n C a with
      | some b, some a => some (.bu b a)
      | _, _ => none
    | _ => none
def trAnd (n : Nat) (C : Ctx) (es : List Expr) : Option E := match n with
  | 0 => none
  | n + 1 => match es with
    | [a] => trE n C a
    | a :: b :: r => match trE n C a, trAnd n C (b :: r) with
      | some a, some b => some (.and a b)
      | _, _ => none
    | [] => none
def trOr (n : Nat) (C : Ctx) (es : List Expr) : Option E := match n with
  | 0 => none
  | n + 1 => match es with
    | [a] => trE n C a
    | a :: b :: r => match trE n C a, trOr n C (b :: r) with
      | some a, some b => some (.or a b)
      | _, _ => none
    | [] => none
def trO (n : Nat) (C : Ctx) (o : Option Expr) : Option Oe := match n with
  | 0 => none
  | n + 1 => match o with
    | none => some .no
    | some e => (trE n C e).map .yes
def trI (n : Nat) (C : Ctx) (tt : Bool) (it : Expr) : Option It := match n with
  | 0 => none
  | n + 1 => match it with
    | .Call (.Name x p) es [] q =>
      bif isBu C x && x == ("range" : Str) then (match es with
        | [a] => (trE n C a).map fun a => .range (.cons a .nil)
        | [a, b] => match trE n C a, trE n C b with
          | some a, some b => some (.range (.cons a (.cons b .nil)))
          | _, _ => none
        | _ => none)
      else bif isBu C x && x == ("zip" : Str) then (bif tt then (match es with
        | [.Starred _ _] => none
        | [a, b] => match trE n C a, trE n C b with
          | some a, some b => some (.zip a b)
          | _, _ => none
        | _ => none) else none)
      else bif isBu C x && x == ("enumerate" : Str) then (bif tt then (match es with | [e] => (trE n C e).map .enum | _ => none) else none)
      else (trE n C (.Call (.Name x p) es [] q)).map .seq
    | e => (trE n C e).map .seq
end

def trTg (n : Nat) (C : Ctx) (e : Expr) : Option Tg := match e with
  | .Subscript a i _ => match i with
    | .Slice .. => none
    | i => match trE n C a, trE n C i with
      | some a, some i => some (.sub a i)
      | _, _ => none
  | e => (trNt C 5 e).map .nm
/-- whether the names of a tuple are stored from the right -/
def swapC (C : Ctx) (ts vs : List Expr) : Option (Option (List Str)) :=
  if !(ts.length == 2 || ts.length == 3) || vs.length != ts.length then some none
  else if vs.any fun | .Starred .. => true | _ => false then some none
  else
    let line := (ts.head?.map (·.pos.line)).getD 0
    let names := ts.filterMap fun
      | .Name id pos => if C.sc.names.lookup id == some .local && pos.line == line then some id else none
      | _ => none
    if names.length != ts.length || names.eraseDups.length != names.length then some none
    else if vs.all (foldedForSure 8) then some none
    else if vs.all (constantsAlone 8) then none
    else some (some names)
/-- plain local names -/
def parOf (C : Ctx) (ts : List Expr) : Option (List Nat) := mapO (fun t => match t with
    | .Name x _ => bif C.sc.names.lookup x == some .local then C.slotW x else none
    | _ => none) ts
/-- except X as n: return ('word', n.field) -/
def trH (C : Ctx) : ExceptHandler → Option (Nat × Str × Nat)
  | .ExceptHandler (some (.Name x _)) (some y) [.Return (some (.Tuple [.Constant (.str w) _ _, .Attribute (.Name z _) f _] _ _)) _] _ => bif isGl C x && C.sc.names.lookup y == some .local && y == z && okNm y then (match C.T.cls.findIdx? (fun p => p.1 == x) with
      | some c => match C.T.cls[c]?, C.slotW y with
        | some p, some _ => (p.2.findIdx? (· == f)).map fun i => (c, w, i)
        | _, _ => none
      | none => none) else none
  | _ => none
mutual
def trS (n : Nat) (C : Ctx) (st : Stmt) : Option St := match n with
  | 0 => none
  | n + 1 => match st with
    | .Assign [t] e _ => trAsg n C t e
    | .AugAssign (.Name x _) o e _ => match C.slotW x, trBo o, trE n C e with
      | some i, some o, some e => some (.aug i o e)
      | _, _, _ => none
    | .Expr e _ => match e with
      | .Constant (.str _) _ _ => some .pas
      | .ListComp .. => none
      | e => (trE n C e).map .ex
    | .If c a b _ => match trE n C c, trSs n C a, trSs n C b with
      | some c, some a, some b => some (.ite c a b)
      | _, _, _ => none
    | .For t it b [] _ => match trNt C 5 t, trI n C (isTup t) it, trSs n C b with
      | some t, some it, some b => some (.for_ t it b)
      | _, _, _ => none
    | .While c b [] _ => match trE n C c, trSs n C b with
      | some c, some b => some (.whl c b)
      | _, _ => none
    | .Return (some e) _ => (trE n C e).map .ret
    | .Return none _ => some .retN
    | .Raise (some (.Call (.Name x _) [e] [] _)) none _ => bif isGl C x then (match C.T.cls.findIdx? (fun p => p.1 == x && Nat.beq p.2.length 1), trL n C [e] with
      | some c, some es => some (.rais c es)
      | _, _ => none) else none
    | .Try [.Return (some e) _] (h :: hs) [] [] _ => match trE n C e, mapO (trH C) (h :: hs) with
        | some e, some hs => some (.met e hs)
        | _, _ => none
    | .Pass _ => some .pas
    | .Break _ => some .brk
    | .Continue _ => some .cnt
    | _ => none
def trAsg (n : Nat) (C : Ctx) (t e : Expr) : Option St := match n with
  | 0 => none
  | n + 1 => match t, e with
    | .Tuple ts _ _, .Tuple vs _ _ => match swapC C ts vs, trL n C vs with
      | some (some _), some es => match parOf C ts with
        | some is => bif decide is.Nodup && Nat.beq ts.length vs.length then some (.par is es) else none
        | none => none
      | some none, some es => bif Nat.beq ts.length vs.length && Nat.ble ts.length 100 then (mapO (trTg n C) ts).map fun tg => .asgs tg es else none
      | _, _ => none
    | t, e => match trTg n C t, trE n C e with
        | some t, some e => some (.asg t e)
        | _, _ => none
def trSs (n : Nat) (C : Ctx) (b : List Stmt) : Option Ss := match n with
  | 0 => none
  | n + 1 => match b with
    | [] => some .nil
    | st :: r => (trSs n C r).map fun r => .cons ((trS n C st).getD .no) r
end

/-! ### a whole text -/
/-- a def of the text: its slots' names, its lambdas -/
structure Di where
  st : Stmt
  N : List Str
  lams : List (Nat × Nat × List Str × List Str)
  cs : List Nat
def mkFn (T : Tx) (d : Di) : Option Fn := match d.st with
  | .FunctionDef _ args body [] none [] sc none _ _ =>
    (trSs 60 ⟨T, d.N, sc, d.lams, d.cs⟩ body).map fun b => ⟨args.args.length, d.N.length, sc.names.filterMap (fun p => bif p.2 == .cell then (d.N.findIdx? (· == p.1)).bind fun i => bif d.cs.contains i then some i else none else none), b⟩
  | _ => none
/-- a def that is not served: a stop -/
def stub (d : Di) : Fn := ⟨0, 0, [], .cons .brk .nil⟩
end Ev
/-! EvC: how the evaluator's data stand in the abstract heap. -/
namespace Ev
open PySem PySem.Spec PyProof.Rows
open L2 (V HO Hp Cx Inv PE PT PA PS PSs PG PI RelV Vals upd upd_same upd_ne SqL SqT TE TT TA TS TG TI WX XK VK)

mutual
/-- the value v is the datum d; φ: where the objects stand -/
def Rep (φ : List Addr) (H : Hp) (d : D) (v : V) : Prop := match d with
  | .non => v = .non
  | .bl b => v = .bl b
  | .int i => v = .int i
  | .str x => v = .str x
  | .ref k => ∃ a, φ[k]? = some a ∧ v = .ref a
  | .tup xs => ∃ a vs, v = .ref a ∧ H a = some (.tup vs) ∧ Reps φ H xs vs
def Reps (φ : List Addr) (H : Hp) (ds : List D) (vs : List V) : Prop := match ds with
  | [] => vs = []
  | d :: r => ∃ v us, vs = v :: us ∧ Rep φ H d v ∧ Reps φ H r us
end

/-- what never changes -/
def Fix : HO → Prop
  | .tup _ => True
  | .frz _ _ => True
  | .ext _ => True
  | _ => False
def NotTbl (u : HO) : Prop := ∀ ps, u ≠ .tbl ps
/-- the object o and no other -/
def FunO (a : Addr) (o : Obj) : HO := .ext fun h => h.get? a = some o
/-- a cell's stand-in -/
def cellX (a : Addr) : HO := .ext fun h => ∃ o, h.get? a = some o
/-- the objects' places, the cells' places; the cells of the frame that runs -/
structure Gh where
  φ : List Addr
  ψ : List Addr
  lv : List Nat
def CellK (φ : List Addr) (H : Hp) (a : Addr) (ow : Option D) : Prop :=
  ∃ o ov, H a = some (.frz o (cellX a)) ∧ o.data = .cell ov ∧ ∀ w, ow = some w → ∃ u v, ov = some u ∧ RelV v u ∧ Rep φ H w v

/-- what is fixed of the program: its defs' places, its classes' places, the tables of code objects -/
structure Zx where
  P : Program
  w : World
  K : PySem.W.Frag
  mg : Str → Option Value
  base : Heap
  T : List (Addr × Str)
  tx : Tx
  pg : Pg
  fa : Nat → Addr
  ca : Nat → Addr

def CloR (Z : Zx) (g : Gh) (H : Hp) (a : Addr) (np nf ns : Nat) (body : E) (cs : List Nat) : Prop :=
  ∃ (q : Str) (params : Arguments) (bd : Expr) (scope : Scope) (cl : List (Str × Addr)) (pm : Value) (c' : Addr) (ctv : Value) (N fr : List Str) (n : Nat),
    H a = some (FunO a (PySem.W.kla_obj "<lambda>" q params bd scope cl pm c' ctv)) ∧ H c' = some (LamX.CodeO c' q) ∧ lamOkB N params fr scope = true ∧ trE n (lamC Z.tx N scope params fr) bd = some body ∧
    np = params.args.length ∧ nf = fr.length ∧ ns = N.length ∧ cs.length = fr.length ∧ (∀ (i : Nat) x c, fr[i]? = some x → cs[i]? = some c → ∃ b, cl.lookup x = some b ∧ g.ψ[c]? = some b) ∧
    (∀ x y b, cl.lookup x = some b → cl.lookup y = some b → x = y) ∧ ∀ x b, cl.lookup x = some b → x ∈ fr
def ObjR (Z : Zx) (g : Gh) (H : Hp) (a : Addr) : O → Prop
  | .lst xs => ∃ vs, H a = some (.lst vs) ∧ Reps g.φ H xs vs
  | .fro xs => ∃ o vs, H a = some (.frz o (.lst vs)) ∧ Reps g.φ H xs vs
  | .dct kvs => ∃ kus, H a = some (.dK kus) ∧ Paired (fun (p : Key × D) (q : Key × V) => p.1 = q.1 ∧ Rep g.φ H p.2 q.2) kvs kus
  | .clo np nf ns body cs => CloR Z g H a np nf ns body cs

structure RelS (Z : Zx) (g : Gh) (H : Hp) (s : S) : Prop where
  n : g.φ.length = s.n
  m : g.ψ.length = s.m
  inj : ∀ (i j : Nat) (a : Addr), g.φ[i]? = some a → g.φ[j]? = some a → i = j
  obj : ∀ (k : Nat) (a : Addr), g.φ[k]? = some a → ∃ o, s.h.get k = some o ∧ ObjR Z g H a o
  hi : ∀ k o, s.h.get k = some o → k < s.n
  cel : ∀ (c : Nat) (a : Addr) (ow : Option D), g.ψ[c]? = some a → s.c.get c = some ow → c ∉ g.lv → CellK g.φ H a ow
  chi : ∀ c ow, s.c.get c = some ow → c < s.m
  cin : ∀ (c c' : Nat) (a : Addr) (ow ow' : Option D), g.ψ[c]? = some a → g.ψ[c']? = some a → s.c.get c = some ow → s.c.get c' = some ow' → c ∉ g.lv → c' ∉ g.lv → c = c'
  tab : LamX.Tabs Z.T H

/-- the slots, the frame's cells -/
structure RelE (cs : List Nat) (X : Cx) (g : Gh) (H : Hp) (σ : L2.St) (en : Env) (s : S) : Prop where
  len : en.σ.length = X.N.length
  cen : en.ce.length = X.N.length
  slot : ∀ (i : Nat) (w : D), en.σ[i]? = some (some w) → ∃ v, σ[i]? = some (some v) ∧ Rep g.φ H w v
  cell : ∀ (i c : Nat), en.ce[i]? = some (some c) → ∃ x a, X.N[i]? = some x ∧ X.env.cells.lookup x = some a ∧ g.ψ[c]? = some a ∧ s.c.get c = some ((en.σ[i]?).join) ∧ c ∈ g.lv ∧ i ∈ cs ∧ (X.env.scope.names.lookup x = some .cell ∨ X.env.scope.names.lookup x = some .free)
  live : ∀ c ∈ g.lv, ∃ i : Nat, en.ce[i]? = some (some c)

/-- what is kept; L: the cells that may change -/
structure After (L : List Nat) (g : Gh) (H : Hp) (s : S) (g' : Gh) (H' : Hp) (s' : S) : Prop where
  φ : ∃ l, g'.φ = g.φ ++ l
  ψ : ∃ l, g'.ψ = g.ψ ++ l
  lv : g'.lv = g.lv
  fix : ∀ a u, H a = some u → Fix u → H' a = some u
  oth : ∀ a u, H a = some u → a ∉ g.φ → NotTbl u → H' a = some u
  dom : ∀ a, H' a = none → H a = none
  new : ∀ a ∈ g'.φ, a ∈ g.φ ∨ H a = none
  m : s.m ≤ s'.m
  cp : ∀ c, c < s.m → c ∉ L → s'.c.get c = s.c.get c

/-! ### Rep -/
section
variable {φ φ' : List Addr} {H H' : Hp}
theorem pre_get {α : Type} {l l' : List α} (h : ∃ t, l' = l ++ t) {i : Nat} {a : α} (e : l[i]? = some a) : l'[i]? = some a := by
  obtain ⟨t, rfl⟩ := h
  rw [List.getElem?_append_left (List.getElem?_eq_some_iff.mp e).1]
  exact e
mutual
theorem Rep.mono (hφ : ∃ l, φ' = φ ++ l) (ht : ∀ a xs, H a = some (.tup xs) → H' a = some (.tup xs)) : ∀ (d : D) (v : V), Rep φ H d v → Rep φ' H' d v
  | .non, _, h => h
  | .bl _, _, h => h
  | .int _, _, h => h
  | .str _, _, h => h
  | .ref k, v, h => by
    unfold Rep at h ⊢
    obtain ⟨a, h1, h2⟩ := h
    exact ⟨a, pre_get hφ h1, h2⟩
  | .tup xs, v, h => by
    unfold Rep at h ⊢
    obtain ⟨a, vs, h1, h2, h3⟩ := h
    exact ⟨a, vs, h1, ht _ _ h2, Reps.mono hφ ht xs vs h3⟩
theorem Reps.mono (hφ : ∃ l, φ' = φ ++ l) (ht : ∀ a xs, H a = some (.tup xs) → H' a = some (.tup xs)) : ∀ (ds : List D) (vs : List V), Reps φ H ds vs → Reps φ' H' ds vs
  | [], _, h => h
  | d :: r, vs, h => by
    unfold Reps at h ⊢
    obtain ⟨v, us, h1, h2, h3⟩ := h
    exact ⟨v, us, h1, Rep.mono hφ ht d v h2, Reps.mono hφ ht r us h3⟩
end
theorem Reps.len : ∀ {ds : List D} {vs : List V}, Reps φ H ds vs → ds.length = vs.length
  | [], vs, h => by unfold Reps at h; subst h; rfl
  | d :: r, vs, h => by
    unfold Reps at h
    obtain ⟨v, us, rfl, _, h3⟩ := h
    simp [Reps.len h3]
theorem Reps.get : ∀ {ds : List D} {vs : List V}, Reps φ H ds vs → ∀ {i : Nat} {d : D}, ds[i]? = some d → ∃ v, vs[i]? = some v ∧ Rep φ H d v
  | [], _, _, _, _, e => by simp at e
  | d :: r, vs, h, i, e0, e => by
    unfold Reps at h
    obtain ⟨v, us, rfl, h2, h3⟩ := h
    cases i with
    | zero => simp at e; subst e; exact ⟨v, rfl, h2⟩
    | succ j =>
      obtain ⟨w, a, b⟩ := Reps.get h3 (i := j) (by simpa using e)
      exact ⟨w, by simpa using a, b⟩
theorem Reps.get' {ds : List D} {vs : List V} (h : Reps φ H ds vs) {i : Nat} {v : V} (e : vs[i]? = some v) : ∃ d, ds[i]? = some d ∧ Rep φ H d v := by
  have hl := h.len
  have hi : i < ds.length := by rw [hl]; exact (List.getElem?_eq_some_iff.mp e).1
  obtain ⟨w, h1, h2⟩ := h.get (List.getElem?_eq_getElem hi)
  rw [e] at h1
  cases h1
  exact ⟨_, List.getElem?_eq_getElem hi, h2⟩
theorem Reps.none_of {ds : List D} {vs : List V} (h : Reps φ H ds vs) {i : Nat} (e : ds[i]? = none) : vs[i]? = none := by
  rw [List.getElem?_eq_none_iff] at e ⊢
  rw [← h.len]; exact e
theorem reps_nil : Reps φ H [] [] := by unfold Reps; rfl
theorem reps_cons {d : D} {v : V} {ds : List D} {vs : List V} (h : Rep φ H d v) (r : Reps φ H ds vs) : Reps φ H (d :: ds) (v :: vs) := by
  unfold Reps
  exact ⟨v, vs, rfl, h, r⟩
theorem Reps.nil_of {vs : List V} (h : Reps φ H [] vs) : vs = [] := by unfold Reps at h; exact h
theorem Reps.cons_of {d : D} {ds : List D} {vs : List V} (h : Reps φ H (d :: ds) vs) : ∃ v us, vs = v :: us ∧ Rep φ H d v ∧ Reps φ H ds us := by unfold Reps at h; exact h
theorem Reps.append : ∀ {ds es : List D} {vs us : List V}, Reps φ H ds vs → Reps φ H es us → Reps φ H (ds ++ es) (vs ++ us)
  | [], _, _, _, h, r => by rw [h.nil_of]; exact r
  | d :: ds, _, _, _, h, r => by
    obtain ⟨v, us, rfl, h2, h3⟩ := h.cons_of
    exact reps_cons h2 (Reps.append h3 r)
theorem Reps.take : ∀ (n : Nat) {ds : List D} {vs : List V}, Reps φ H ds vs → Reps φ H (ds.take n) (vs.take n)
  | 0, _, _, _ => by simp; exact reps_nil
  | n + 1, [], _, h => by rw [h.nil_of]; simp; exact reps_nil
  | n + 1, d :: ds, _, h => by
    obtain ⟨v, us, rfl, h2, h3⟩ := h.cons_of
    simp only [List.take_succ_cons]
    exact reps_cons h2 (Reps.take n h3)
theorem Reps.drop : ∀ (n : Nat) {ds : List D} {vs : List V}, Reps φ H ds vs → Reps φ H (ds.drop n) (vs.drop n)
  | 0, _, _, h => by simpa using h
  | n + 1, [], _, h => by rw [h.nil_of]; simp; exact reps_nil
  | n + 1, d :: ds, _, h => by
    obtain ⟨v, us, rfl, h2, h3⟩ := h.cons_of
    simp only [List.drop_succ_cons]
    exact Reps.drop n h3
theorem Reps.set {d : D} {v : V} (h0 : Rep φ H d v) : ∀ (i : Nat) {ds : List D} {vs : List V}, Reps φ H ds vs → Reps φ H (ds.set i d) (vs.set i v)
  | _, [], _, h => by rw [h.nil_of]; simp; exact reps_nil
  | 0, e :: ds, _, h => by
    obtain ⟨u, us, rfl, h2, h3⟩ := h.cons_of
    simp only [List.set_cons_zero]
    exact reps_cons h0 h3
  | i + 1, e :: ds, _, h => by
    obtain ⟨u, us, rfl, h2, h3⟩ := h.cons_of
    simp only [List.set_cons_succ]
    exact reps_cons h2 (Reps.set h0 i h3)
theorem Reps.eraseIdx : ∀ (i : Nat) {ds : List D} {vs : List V}, Reps φ H ds vs → Reps φ H (ds.eraseIdx i) (vs.eraseIdx i)
  | _, [], _, h => by rw [h.nil_of]; simp; exact reps_nil
  | 0, e :: ds, _, h => by
    obtain ⟨u, us, rfl, h2, h3⟩ := h.cons_of
    simpa using h3
  | i + 1, e :: ds, _, h => by
    obtain ⟨u, us, rfl, h2, h3⟩ := h.cons_of
    simp only [List.eraseIdx_cons_succ]
    exact reps_cons h2 (Reps.eraseIdx i h3)
theorem Reps.dropLast {ds : List D} {vs : List V} (h : Reps φ H ds vs) : Reps φ H ds.dropLast vs.dropLast := by
  rw [List.dropLast_eq_take, List.dropLast_eq_take, ← h.len]
  exact h.take _
theorem rep_int {i : Int} {v : V} (h : Rep φ H (.int i) v) : v = .int i := by unfold Rep at h; exact h
theorem rep_bl {b : Bool} {v : V} (h : Rep φ H (.bl b) v) : v = .bl b := by unfold Rep at h; exact h
theorem rep_str {x : Str} {v : V} (h : Rep φ H (.str x) v) : v = .str x := by unfold Rep at h; exact h
theorem rep_non {v : V} (h : Rep φ H .non v) : v = .non := by unfold Rep at h; exact h
theorem rep_ref {k : Nat} {v : V} (h : Rep φ H (.ref k) v) : ∃ a, φ[k]? = some a ∧ v = .ref a := by unfold Rep at h; exact h
theorem rep_tup {xs : List D} {v : V} (h : Rep φ H (.tup xs) v) : ∃ a vs, v = .ref a ∧ H a = some (.tup vs) ∧ Reps φ H xs vs := by unfold Rep at h; exact h
theorem Rep.int (i : Int) : Rep φ H (.int i) (.int i) := by unfold Rep; rfl
theorem Rep.bl (b : Bool) : Rep φ H (.bl b) (.bl b) := by unfold Rep; rfl
theorem Rep.str (x : Str) : Rep φ H (.str x) (.str x) := by unfold Rep; rfl
theorem Rep.non : Rep φ H .non .non := by unfold Rep; rfl
theorem Rep.ref {k : Nat} {a : Addr} (h : φ[k]? = some a) : Rep φ H (.ref k) (.ref a) := by unfold Rep; exact ⟨a, h, rfl⟩
theorem Rep.tup {xs : List D} {a : Addr} {vs : List V} (h : H a = some (.tup vs)) (r : Reps φ H xs vs) : Rep φ H (.tup xs) (.ref a) := by unfold Rep; exact ⟨a, vs, rfl, h, r⟩
end

/-! ### After -/
section
variable {L : List Nat} {Z : Zx} {g g1 g2 : Gh} {H H1 H2 : Hp} {s s1 s2 : S}
theorem After.refl (L : List Nat) (g : Gh) (H : Hp) (s : S) : After L g H s g H s := ⟨⟨[], by simp⟩, ⟨[], by simp⟩, rfl, fun _ _ h _ => h, fun _ _ h _ _ => h, fun _ h => h, fun _ h => .inl h, Nat.le_refl _, fun _ _ _ => rfl⟩
theorem pre_trans {α : Type} {a b c : List α} (h : ∃ l, b = a ++ l) (h' : ∃ l, c = b ++ l) : ∃ l, c = a ++ l := by
  obtain ⟨l, rfl⟩ := h
  obtain ⟨l', rfl⟩ := h'
  exact ⟨l ++ l', by simp⟩
theorem After.trans (a : After L g H s g1 H1 s1) (b : After L g1 H1 s1 g2 H2 s2) : After L g H s g2 H2 s2 where
  φ := pre_trans a.φ b.φ
  ψ := pre_trans a.ψ b.ψ
  lv := b.lv.trans a.lv
  fix := fun x u h f => b.fix x u (a.fix x u h f) f
  oth := fun x u h n t => b.oth x u (a.oth x u h n t) (fun hm => by
    rcases a.new x hm with h1 | h1
    · exact n h1
    · rw [h] at h1; cases h1) t
  dom := fun x h => a.dom x (b.dom x h)
  new := fun x hm => by
    rcases b.new x hm with h1 | h1
    · exact a.new x h1
    · exact .inr (a.dom x h1)
  m := Nat.le_trans a.m b.m
  cp := fun c hc hl => (b.cp c (Nat.lt_of_lt_of_le hc a.m) hl).trans (a.cp c hc hl)
theorem After.up {L' : List Nat} (a : After L g H s g1 H1 s1) (h : ∀ c ∈ L, c ∈ L') : After L' g H s g1 H1 s1 :=
  { a with cp := fun c hc hl => a.cp c hc fun z => hl (h c z) }
theorem After.tup (a : After L g H s g1 H1 s1) : ∀ x xs, H x = some (.tup xs) → H1 x = some (.tup xs) := fun x xs h => a.fix x _ h trivial
theorem After.rep (a : After L g H s g1 H1 s1) {d : D} {v : V} (h : Rep g.φ H d v) : Rep g1.φ H1 d v := Rep.mono a.φ a.tup d v h
theorem After.reps (a : After L g H s g1 H1 s1) {ds : List D} {vs : List V} (h : Reps g.φ H ds vs) : Reps g1.φ H1 ds vs := Reps.mono a.φ a.tup ds vs h
theorem RelE.after {cs : List Nat} {X : Cx} {σ : L2.St} {en : Env} (r : RelE cs X g H σ en s) (hm : g.ψ.length = s.m) (a : After [] g H s g1 H1 s1) : RelE cs X g1 H1 σ en s1 where
  len := r.len
  cen := r.cen
  slot := fun i w h => by
    obtain ⟨v, h1, h2⟩ := r.slot i w h
    exact ⟨v, h1, a.rep h2⟩
  cell := fun i c h => by
    obtain ⟨x, b, h1, h2, h3, h4, h5, h6⟩ := r.cell i c h
    exact ⟨x, b, h1, h2, pre_get a.ψ h3, (a.cp c (by rw [← hm]; exact (List.getElem?_eq_some_iff.mp h3).1) (by simp)).trans h4, by rw [a.lv]; exact h5, h6⟩
  live := fun c h => r.live c (by rw [← a.lv]; exact h)
theorem paired_imp {α β : Type} {F G : α → β → Prop} {l : List α} {l' : List β} (h : Paired F l l') (f : ∀ a b, F a b → G a b) : Paired G l l' := L2.Paired.mapP h f
/-- an object's description stays where it itself and what never changes stay -/
theorem ObjR.mono {a : Addr} {o : O} (h : ObjR Z g H a o) (hφ : ∃ l, g1.φ = g.φ ++ l) (hψ : ∃ l, g1.ψ = g.ψ ++ l) (hf : ∀ b u, H b = some u → Fix u → H1 b = some u) (ha : H1 a = H a) : ObjR Z g1 H1 a o := by
  have ht : ∀ b xs, H b = some (.tup xs) → H1 b = some (.tup xs) := fun b xs e => hf b _ e trivial
  cases o with
  | lst xs =>
    obtain ⟨vs, h1, h2⟩ := h
    exact ⟨vs, ha.trans h1, Reps.mono hφ ht _ _ h2⟩
  | fro xs =>
    obtain ⟨ob, vs, h1, h2⟩ := h
    exact ⟨ob, vs, ha.trans h1, Reps.mono hφ ht _ _ h2⟩
  | dct kvs =>
    obtain ⟨kus, h1, h2⟩ := h
    exact ⟨kus, ha.trans h1, paired_imp h2 fun p q r => ⟨r.1, Rep.mono hφ ht _ _ r.2⟩⟩
  | clo np nf ns body cs =>
    obtain ⟨q, params, bd, scope, cl, pm, c', ctv, N, fr, n, h1, h2, h3, h4, h5, h6, h7, h8, h9, h10, h11⟩ := h
    exact ⟨q, params, bd, scope, cl, pm, c', ctv, N, fr, n, hf _ _ h1 trivial, hf _ _ h2 trivial, h3, h4, h5, h6, h7, h8, fun i x c e1 e2 => by
      obtain ⟨b, e3, e4⟩ := h9 i x c e1 e2
      exact ⟨b, e3, pre_get hψ e4⟩, h10, h11⟩
theorem CellK.mono {φ φ' : List Addr} {a : Addr} {ow : Option D} (h : CellK φ H a ow) (hφ : ∃ l, φ' = φ ++ l) (hf : ∀ b u, H b = some u → Fix u → H1 b = some u) : CellK φ' H1 a ow := by
  obtain ⟨o, ov, h1, h2, h3⟩ := h
  refine ⟨o, ov, hf _ _ h1 trivial, h2, fun w e => ?_⟩
  obtain ⟨u, v, e1, e2, e3⟩ := h3 w e
  exact ⟨u, v, e1, e2, Rep.mono hφ (fun b xs e => hf b _ e trivial) _ _ e3⟩
theorem ObjR.not_tup {a : Addr} {o : O} (h : ObjR Z g H a o) : ∀ xs, H a ≠ some (.tup xs) := fun xs e => by
  cases o with
  | lst _ => obtain ⟨_, h1, _⟩ := h; rw [e] at h1; cases h1
  | fro _ => obtain ⟨_, _, h1, _⟩ := h; rw [e] at h1; cases h1
  | dct _ => obtain ⟨_, h1, _⟩ := h; rw [e] at h1; cases h1
  | clo _ _ _ _ _ =>
    obtain ⟨_, _, _, _, _, _, _, _, _, _, _, h1, _⟩ := h
    rw [e] at h1; unfold FunO at h1; cases h1
theorem ObjR.some {a : Addr} {o : O} (h : ObjR Z g H a o) : ∃ u, H a = some u ∧ NotTbl u := by
  cases o with
  | lst _ => obtain ⟨_, h1, _⟩ := h; exact ⟨_, h1, fun _ z => by cases z⟩
  | fro _ => obtain ⟨_, _, h1, _⟩ := h; exact ⟨_, h1, fun _ z => by cases z⟩
  | dct _ => obtain ⟨_, h1, _⟩ := h; exact ⟨_, h1, fun _ z => by cases z⟩
  | clo _ _ _ _ _ =>
    obtain ⟨_, _, _, _, _, _, _, _, _, _, _, h1, _⟩ := h
    exact ⟨_, h1, fun _ z => by unfold FunO at z; cases z⟩

/-! ### changes of the state -/
/-- a new address -/
theorem RelS.notin (r : RelS Z g H s) {p : Addr} (hp : H p = none) : p ∉ g.φ := fun hm => by
  obtain ⟨i, hi, e⟩ := List.getElem_of_mem hm
  obtain ⟨o, _, h⟩ := r.obj i p (by rw [List.getElem?_eq_getElem hi, e])
  obtain ⟨u, h1, _⟩ := h.some
  rw [hp] at h1; cases h1
/-- something new that is no object of ours (tuples, an iterator's ..) -/
theorem RelS.aside (r : RelS Z g H s) (he : ∀ b u, H b = some u → H1 b = some u) : RelS Z g H1 s where
  n := r.n
  m := r.m
  inj := r.inj
  obj := fun k a e => by
    obtain ⟨ob, h1, h2⟩ := r.obj k a e
    obtain ⟨u, h3, _⟩ := h2.some
    exact ⟨ob, h1, h2.mono ⟨[], by simp⟩ ⟨[], by simp⟩ (fun b u e _ => he b u e) ((he _ _ h3).trans h3.symm)⟩
  hi := r.hi
  cel := fun c a ow h1 h2 h3 => (r.cel c a ow h1 h2 h3).mono ⟨[], by simp⟩ (fun b u e _ => he b u e)
  chi := r.chi
  cin := r.cin
  tab := r.tab.ext he
theorem ext_dom (he : ∀ b u, H b = some u → H1 b = some u) : ∀ a, H1 a = none → H a = none := fun a e => by
  cases h : H a with
  | none => rfl
  | some u => rw [he a u h] at e; cases e
theorem After.aside (he : ∀ b u, H b = some u → H1 b = some u) : After L g H s g H1 s :=
  ⟨⟨[], by simp⟩, ⟨[], by simp⟩, rfl, fun b u e _ => he b u e, fun a u e _ _ => he a u e, ext_dom he, fun _ h => .inl h, Nat.le_refl _, fun _ _ _ => rfl⟩
theorem ext_new {p : Addr} {o : HO} (hp : H p = none) : ∀ b u, H b = some u → upd H p o b = some u := fun b u e => by
  rw [upd_ne (L2.ne_of_none e hp)]; exact e
/-- a new object of ours -/
theorem RelS.alloc (r : RelS Z g H s) {p : Addr} {o : O} (he : ∀ b u, H b = some u → H1 b = some u) (hp : H p = none) (ho : ObjR Z { g with φ := g.φ ++ [p] } H1 p o) :
    RelS Z { g with φ := g.φ ++ [p] } H1 { s with n := s.n + 1, h := s.h.put s.n (some o) } where
  n := by simp [r.n]
  m := r.m
  inj := fun i j a h1 h2 => by
    have key : ∀ (i : Nat), (g.φ ++ [p])[i]? = some p → i = g.φ.length := fun i h => by
      by_cases hi : i < g.φ.length
      · rw [List.getElem?_append_left hi] at h
        exact absurd (List.mem_of_getElem? h) (r.notin hp)
      · rw [List.getElem?_append_right (by omega)] at h
        have := (List.getElem?_eq_some_iff.mp h).1
        simp at this; omega
    by_cases ha : a = p
    · subst ha
      rw [key i h1, key j h2]
    · have low : ∀ (i : Nat), (g.φ ++ [p])[i]? = some a → g.φ[i]? = some a := fun i h => by
        by_cases hi : i < g.φ.length
        · rw [List.getElem?_append_left hi] at h; exact h
        · rw [List.getElem?_append_right (by omega)] at h
          cases e : i - g.φ.length with
          | zero => rw [e] at h; simp at h; exact absurd h.symm ha
          | succ n => rw [e] at h; simp at h
      exact r.inj i j a (low i h1) (low j h2)
  obj := fun k a e => by
    show ∃ o', (s.h.put s.n (some o)).get k = some o' ∧ _
    by_cases hk : k < g.φ.length
    · have e' : g.φ[k]? = some a := by
        have e : (g.φ ++ [p])[k]? = some a := e
        rw [List.getElem?_append_left hk] at e; exact e
      obtain ⟨ob, h1, h2⟩ := r.obj k a e'
      obtain ⟨u, h3, _⟩ := h2.some
      rw [Tr.get_put_ne _ _ (by rw [← r.n]; omega)]
      exact ⟨ob, h1, h2.mono ⟨[p], rfl⟩ ⟨[], by simp⟩ (fun b u e _ => he b u e) ((he _ _ h3).trans h3.symm)⟩
    · have : k = g.φ.length ∧ a = p := by
        have e : (g.φ ++ [p])[k]? = some a := e
        rw [List.getElem?_append_right (by omega)] at e
        cases q : k - g.φ.length with
        | zero => rw [q] at e; simp at e; exact ⟨by omega, e.symm⟩
        | succ n => rw [q] at e; simp at e
      obtain ⟨rfl, rfl⟩ := this
      rw [r.n, Tr.get_put_same]
      exact ⟨o, rfl, ho⟩
  hi := fun k o' e => by
    show k < s.n + 1
    by_cases hk : k = s.n
    · omega
    · have e : (s.h.put s.n (some o)).get k = some o' := e
      rw [Tr.get_put_ne _ _ hk] at e
      have := r.hi k o' e
      omega
  cel := fun c a ow h1 h2 h3 => (r.cel c a ow h1 h2 h3).mono ⟨[p], rfl⟩ (fun b u e _ => he b u e)
  chi := r.chi
  cin := r.cin
  tab := r.tab.ext he
theorem After.alloc {p : Addr} {h' : Tr O} {n' : Nat} (he : ∀ b u, H b = some u → H1 b = some u) (hp : H p = none) : After L g H s { g with φ := g.φ ++ [p] } H1 { s with n := n', h := h' } :=
  ⟨⟨[p], rfl⟩, ⟨[], by simp⟩, rfl, fun b u e _ => he b u e, fun a u e _ _ => he a u e, ext_dom he, fun a h => by
    rcases List.mem_append.mp h with h | h
    · exact .inl h
    · simp at h; subst h; exact .inr hp, Nat.le_refl _, fun _ _ _ => rfl⟩
theorem RelS.ref_new (r : RelS Z g H s) {p : Addr} : (g.φ ++ [p])[s.n]? = some p := by rw [← r.n]; simp
/-- a list's items -/
theorem RelS.lstAt (r : RelS Z g H s) {k : Nat} {xs : List D} {v : V} (h : s.lstAt k = some xs) (hv : Rep g.φ H (.ref k) v) : ∃ a vs, v = .ref a ∧ L2.Rd H a (.lst vs) ∧ Reps g.φ H xs vs := by
  obtain ⟨a, h1, rfl⟩ := rep_ref hv
  obtain ⟨o, h2, h3⟩ := r.obj k a h1
  unfold S.lstAt at h
  rw [h2] at h
  cases o with
  | lst ys =>
    cases h
    obtain ⟨vs, h4, h5⟩ := h3
    exact ⟨a, vs, rfl, .inl h4, h5⟩
  | fro ys =>
    cases h
    obtain ⟨ob, vs, h4, h5⟩ := h3
    exact ⟨a, vs, rfl, .inr ⟨ob, h4⟩, h5⟩
  | dct _ => cases h
  | clo _ _ _ _ _ => cases h
theorem RelS.lstMut (r : RelS Z g H s) {k : Nat} {xs : List D} {v : V} (h : s.lstMut k = some xs) (hv : Rep g.φ H (.ref k) v) : ∃ a vs, v = .ref a ∧ g.φ[k]? = some a ∧ H a = some (.lst vs) ∧ Reps g.φ H xs vs := by
  obtain ⟨a, h1, rfl⟩ := rep_ref hv
  obtain ⟨o, h2, h3⟩ := r.obj k a h1
  unfold S.lstMut at h
  rw [h2] at h
  cases o with
  | lst ys =>
    cases h
    obtain ⟨vs, h4, h5⟩ := h3
    exact ⟨a, vs, rfl, h1, h4, h5⟩
  | fro ys => cases h
  | dct _ => cases h
  | clo _ _ _ _ _ => cases h
theorem RelS.dctAt (r : RelS Z g H s) {k : Nat} {kvs : List (Key × D)} {v : V} (h : s.dctAt k = some kvs) (hv : Rep g.φ H (.ref k) v) :
    ∃ a kus, v = .ref a ∧ H a = some (.dK kus) ∧ Paired (fun (p : Key × D) (q : Key × V) => p.1 = q.1 ∧ Rep g.φ H p.2 q.2) kvs kus := by
  obtain ⟨a, h1, rfl⟩ := rep_ref hv
  obtain ⟨o, h2, h3⟩ := r.obj k a h1
  unfold S.dctAt at h
  rw [h2] at h
  cases o with
  | dct ys =>
    cases h
    obtain ⟨kus, h4, h5⟩ := h3
    exact ⟨a, kus, rfl, h4, h5⟩
  | lst ys => cases h
  | fro ys => cases h
  | clo _ _ _ _ _ => cases h
theorem fix_lst {p : Addr} {vs : List V} {o : HO} (hp : H p = some (.lst vs)) : ∀ b u, H b = some u → Fix u → upd H p o b = some u := fun b u e f => by
  rw [upd_ne (fun z => by rw [z, hp] at e; cases e; exact f)]; exact e
/-- a list of ours is written -/
theorem RelS.setL (r : RelS Z g H s) {k : Nat} {p : Addr} {us vs : List V} {xs : List D} (hk : g.φ[k]? = some p) (hp : H p = some (.lst us)) (hv : Reps g.φ H xs vs) : RelS Z g (upd H p (.lst vs)) (s.set k (.lst xs)) where
  n := r.n
  m := r.m
  inj := r.inj
  obj := fun j a e => by
    show ∃ o', (s.h.put k (some (.lst xs))).get j = some o' ∧ _
    by_cases hj : j = k
    · subst hj
      rw [hk] at e
      cases e
      rw [Tr.get_put_same]
      exact ⟨_, rfl, vs, upd_same, Reps.mono ⟨[], by simp⟩ (fun b ys e => fix_lst hp b _ e trivial) _ _ hv⟩
    · rw [Tr.get_put_ne _ _ hj]
      obtain ⟨ob, h1, h2⟩ := r.obj j a e
      exact ⟨ob, h1, h2.mono ⟨[], by simp⟩ ⟨[], by simp⟩ (fix_lst hp) (upd_ne fun z => hj (r.inj j k p (by rw [← z]; exact e) hk))⟩
  hi := fun j o' e => by
    by_cases hj : j = k
    · subst hj
      have := (List.getElem?_eq_some_iff.mp hk).1
      show j < s.n
      rw [← r.n]; exact this
    · have e : (s.h.put k (some (.lst xs))).get j = some o' := e
      rw [Tr.get_put_ne _ _ hj] at e
      exact r.hi j o' e
  cel := fun c a ow h1 h2 h3 => (r.cel c a ow h1 h2 h3).mono ⟨[], by simp⟩ (fix_lst hp)
  chi := r.chi
  cin := r.cin
  tab := fun q hq => by
    obtain ⟨ps, h1, h2, h3⟩ := r.tab q hq
    refine ⟨ps, ?_, h2, fun pos cv hc => ?_⟩
    · rw [upd_ne (fun z => by rw [z, hp] at h1; cases h1)]; exact h1
    · obtain ⟨c, e1, e2⟩ := h3 pos cv hc
      exact ⟨c, e1, fix_lst hp _ _ e2 trivial⟩
theorem After.setL (r : RelS Z g H s) {k : Nat} {p : Addr} {us : List V} {o : O} {u : HO} (hk : g.φ[k]? = some p) (hp : H p = some (.lst us)) : After L g H s g (upd H p u) (s.set k o) :=
  ⟨⟨[], by simp⟩, ⟨[], by simp⟩, rfl, fix_lst hp, fun a u e n _ => by rw [upd_ne (fun z => n (by rw [z]; exact List.mem_of_getElem? hk))]; exact e, fun a e => by
    by_cases h : a = p
    · subst h; rw [upd_same] at e; cases e
    · rw [upd_ne h] at e; exact e, fun _ h => .inl h, Nat.le_refl _, fun _ _ _ => rfl⟩
end
end Ev
namespace Ev
open PySem PySem.Spec PyProof.Rows
theorem seqItems_none : seqItems? Value.none = pure none := by
  unfold seqItems?
  rfl
section
variable {α β : Type} [BEq α] [LawfulBEq α]
theorem lookup_zip_mem : ∀ {ps : List α} {us : List β}, ps.Nodup → ∀ q ∈ ps.zip us, (ps.zip us).lookup q.1 = some q.2
  | [], _, _, q, h => by simp at h
  | _ :: _, [], _, q, h => by simp at h
  | p :: ps, u :: us, hn, q, h => by
    obtain ⟨hp, hn'⟩ := List.nodup_cons.mp hn
    rw [List.zip_cons_cons] at h ⊢
    rcases List.mem_cons.mp h with rfl | h
    · simp
    · have hne : (q.1 == p) = false := beq_false_of_ne fun z => hp (z ▸ (List.of_mem_zip h).1)
      rw [List.lookup_cons, hne]
      exact lookup_zip_mem hn' q h
theorem zip_filterMap (l : List (α × β)) : ∀ (ps : List α) (us : List β), ps.length = us.length → (∀ q ∈ ps.zip us, l.lookup q.1 = some q.2) → ps.filterMap (fun n => (l.lookup n).map (n, ·)) = ps.zip us
  | [], _, _, _ => by simp
  | _ :: _, [], h, _ => by simp at h
  | p :: ps, u :: us, hl, h => by
    have h0 : l.lookup p = some u := h (p, u) (by simp)
    rw [List.filterMap_cons, h0, List.zip_cons_cons]
    simp only [Option.map_some]
    rw [zip_filterMap l ps us (by simpa using hl) fun q hq => h q (by rw [List.zip_cons_cons]; exact List.mem_cons_of_mem _ hq)]
theorem zip_filter (l : List (α × β)) : ∀ (ps : List α) (us : List β), ps.length = us.length → (∀ q ∈ ps.zip us, l.lookup q.1 = some q.2) → ps.filter (fun n => (l.lookup n).isNone) = []
  | [], _, _, _ => by simp
  | _ :: _, [], h, _ => by simp at h
  | p :: ps, u :: us, hl, h => by
    have h0 : l.lookup p = some u := h (p, u) (by simp)
    rw [List.filter_cons, h0]
    simp only [Option.isNone_some, Bool.false_eq_true, if_false]
    exact zip_filter l ps us (by simpa using hl) fun q hq => h q (by rw [List.zip_cons_cons]; exact List.mem_cons_of_mem _ hq)
end
theorem bind_plain {fd : FuncData} {us : List Value} (hp : plainArgs fd.params = true) (hd : fd.defaults = .none) (hn : (paramsOf fd.params).Nodup) (hl : us.length = (paramsOf fd.params).length) :
    bindArgs fd ⟨us, []⟩ = pure ((paramsOf fd.params).zip us) := by
  obtain ⟨n, q, params, body, scope, gl, cl, df, kd, doc, pm, an, cd, ct, bl⟩ := fd
  obtain ⟨po, ar, va, ko, kwd, kw, de⟩ := params
  simp only [plainArgs, Bool.and_eq_true, List.isEmpty_iff, Option.isNone_iff_eq_none] at hp
  obtain ⟨⟨⟨⟨⟨rfl, rfl⟩, rfl⟩, rfl⟩, rfl⟩, rfl⟩ := hp
  simp only at hd
  subst hd
  have hz := zip_filterMap _ _ us hl.symm (lookup_zip_mem (us := us) hn)
  have hm := zip_filter _ _ us hl.symm (lookup_zip_mem (us := us) hn)
  unfold paramsOf at hl hz hm ⊢
  simp only [List.length_map] at hl
  simp only [bindArgs, seqItems_none]
  simp only [] at hz hm
  have hz' : List.filterMap ((fun n => Option.map (fun x => (n, x)) (List.lookup n ((List.map (fun x => x.arg) ar).zip us))) ∘ fun x => x.arg) ar = (List.map (fun x => x.arg) ar).zip us := by
    rw [← List.filterMap_map]; exact hz
  simp [hl]
  rw [if_neg]
  · exact congrArg pure hz'
  · simp only [List.drop_nil, List.length_nil, Nat.sub_zero, List.map_nil, List.nil_append, List.take_length, hm, List.isEmpty_nil, Bool.not_true, Bool.false_eq_true, not_false_eq_true]
end Ev
/-! EvD: the evaluator's operations by the hand layer's. -/
namespace Ev
open PySem PySem.Spec PyProof.Rows
open L2 (V HO Hp Cx Inv PE PT PA PS PSs PG PI RelV Vals upd upd_same upd_ne SqL SqT TE TT TA TS TG TI WX XK VK)

/-- an error of the class number c with the fields ws -/
def ExK (Z : Zx) (L : List Nat) (g : Gh) (H : Hp) (s : S) (c : Nat) (ws : List D) (s' : S) : XK := fun cls d H' =>
  cls = .ref (Z.ca c) ∧ ∃ g', After L g H s g' H' s' ∧ RelS Z g' H' s' ∧ ∃ dx fs vs fds par, d = some dx ∧ H' dx = some (.xd fs) ∧ Reps g'.φ H' ws vs ∧ Z.pg.cls[c]? = some (par, fds) ∧
    ∀ (i : Nat) (f : Str) (v : V), fds[i]? = some f → vs[i]? = some v → fs.lookup f = some v
/-- an end of the evaluator, as a wish -/
def Fin (Z : Zx) (W : WX) (σ : L2.St) (g : Gh) (H : Hp) (s : S) {α : Type} (r : R α) (K : α → S → Gh → Hp → Prop) : Prop := match r with
  | .ok a s' => ∀ g' H', After [] g H s g' H' s' → RelS Z g' H' s' → K a s' g' H'
  | .ex c ws s' => ∀ cls d H', ExK Z [] g H s c ws s' cls d H' → W cls d σ H'
  | .bad => False
section
variable {Z : Zx} {W : WX} {σ : L2.St} {g g1 : Gh} {H H1 : Hp} {s s1 : S} {α β : Type} {X : Cx}
theorem ExK.rebase {L : List Nat} (a : After L g H s g1 H1 s1) {c : Nat} {ws : List D} {s' : S} {cls : Value} {d : Option Addr} {H' : Hp} (h : ExK Z L g1 H1 s1 c ws s' cls d H') : ExK Z L g H s c ws s' cls d H' := by
  obtain ⟨h1, g', h2, h3⟩ := h
  exact ⟨h1, g', a.trans h2, h3⟩
theorem Fin.rebase {r : R α} {K : α → S → Gh → Hp → Prop} (a : After [] g H s g1 H1 s1) (h : Fin Z W σ g H s r K) : Fin Z W σ g1 H1 s1 r K := by
  cases r with
  | ok x s' => exact fun g' H' a' r' => h g' H' (a.trans a') r'
  | ex c ws s' => exact fun cls d H' e => h cls d H' (e.rebase a)
  | bad => exact h
theorem Fin.bind {r : R α} {f : α → S → R β} {K : β → S → Gh → Hp → Prop} (h : Fin Z W σ g H s (r.bind f) K) : Fin Z W σ g H s r (fun x s1 g1 H1 => After [] g H s g1 H1 s1 ∧ RelS Z g1 H1 s1 ∧ Fin Z W σ g1 H1 s1 (f x s1) K) := by
  cases r with
  | ok x s1 => exact fun g' H' a r' => ⟨a, r', Fin.rebase (r := f x s1) a h⟩
  | ex c ws s' => exact h
  | bad => exact h
theorem Fin.mono {r : R α} {K K' : α → S → Gh → Hp → Prop} (h : Fin Z W σ g H s r K) (hk : ∀ a s' g' H', K a s' g' H' → K' a s' g' H') : Fin Z W σ g H s r K' := by
  cases r with
  | ok x s1 => exact fun g' H' a r' => hk _ _ _ _ (h g' H' a r')
  | ex c ws s' => exact h
  | bad => exact h
/-- any value of the datum -/
def KV (Q : VK) : D → S → Gh → Hp → Prop := fun w s' g' H' => ∀ v, Rep g'.φ H' w v → Q v H'
theorem fin_ok {a : α} {K : α → S → Gh → Hp → Prop} (r : RelS Z g H s) (h : Fin Z W σ g H s (.ok a s) K) : K a s g H := h g H (After.refl _ _ _ _) r
theorem fin_val {w : D} {Q : VK} {v : V} (r : RelS Z g H s) (h : Fin Z W σ g H s (.ok w s) (KV Q)) (hv : Rep g.φ H w v) : Q v H := fin_ok r h v hv
/-- a new tuple -/
theorem fin_tup {xs : List D} {vs : List V} {Q : VK} {p : Addr} (r : RelS Z g H s) (h : Fin Z W σ g H s (.ok (.tup xs) s) (KV Q)) (hv : Reps g.φ H xs vs) (hp : H p = none) : Q (.ref p) (upd H p (.tup vs)) := by
  refine h g _ (After.aside (ext_new hp)) (r.aside (ext_new hp)) _ (Rep.tup upd_same ?_)
  exact Reps.mono ⟨[], by simp⟩ (fun b ys e => ext_new hp b _ e) _ _ hv
/-- a new list -/
theorem fin_lst {xs : List D} {vs : List V} {Q : VK} {p : Addr} (r : RelS Z g H s) (h : Fin Z W σ g H s (s.alloc (.lst xs)) (KV Q)) (he : ∀ b u, H b = some u → H1 b = some u) (hv : Reps g.φ H xs vs) (hp : H p = none) (h1 : H1 p = some (.lst vs)) : Q (.ref p) H1 := by
  refine h _ H1 (After.alloc he hp) (r.alloc he hp ⟨vs, h1, ?_⟩) _ (Rep.ref r.ref_new)
  exact Reps.mono ⟨[p], rfl⟩ (fun b ys e => he b _ e) _ _ hv
theorem fin_new {xs : List D} {vs : List V} {Q : VK} {p : Addr} (r : RelS Z g H s) (h : Fin Z W σ g H s (s.alloc (.lst xs)) (KV Q)) (hv : Reps g.φ H xs vs) (hp : H p = none) : Q (.ref p) (upd H p (.lst vs)) := fin_lst r h (ext_new hp) hv hp upd_same
theorem blt_lt {n m : Nat} (h : Nat.blt n m = true) : n < m := Nat.le_of_ble_eq_true h
theorem okLine_le {n : Nat} (h : okLine n = true) : n ≤ sizeLine := by
  unfold okLine at h
  have := Nat.le_of_ble_eq_true h
  rw [sizeLine_eq]; exact this
/-- a guard -/
theorem fin_guard {b : Bool} {r : R α} {K : α → S → Gh → Hp → Prop} (h : Fin Z W σ g H s (bif b then r else .bad) K) : b = true ∧ Fin Z W σ g H s r K := by
  cases b with
  | true => exact ⟨rfl, h⟩
  | false => exact h.elim
/-- a thing that may be none -/
theorem fin_ofO {o : Option α} {K : α → S → Gh → Hp → Prop} (r : RelS Z g H s) (h : Fin Z W σ g H s (ofO s o) K) : ∃ a, o = some a ∧ K a s g H := by
  cases o with
  | none => exact h.elim
  | some a => exact ⟨a, rfl, fin_ok r h⟩

/-! ### sequences, truth -/
theorem seqOf_is {K : PySem.W.Frag} {d : D} {v : V} {b : Bool} {xs : List D} (r : RelS Z g H s) (h : seqOf s d = some (b, xs)) (hv : Rep g.φ H d v) : ∃ a vs, v = .ref a ∧ Reps g.φ H xs vs ∧ (b = false → SqL K H a vs) ∧ (b = true → H a = some (.tup vs)) := by
  cases d with
  | tup ys =>
    obtain ⟨a, vs, h1, h2, h3⟩ := rep_tup hv
    cases h
    exact ⟨a, vs, h1, h3, (fun z => by cases z), fun _ => h2⟩
  | ref k =>
    simp only [seqOf] at h
    cases e : s.lstAt k with
    | none => rw [e] at h; cases h
    | some ys =>
      rw [e] at h
      cases h
      obtain ⟨a, vs, h1, h2, h3⟩ := r.lstAt e hv
      exact ⟨a, vs, h1, h3, (fun _ => .inl h2), fun z => by cases z⟩
  | non => cases h
  | bl _ => cases h
  | int _ => cases h
  | str _ => cases h
theorem reps_empty {φ : List Addr} {xs : List D} {vs : List V} (h : Reps φ H xs vs) : xs.isEmpty = vs.isEmpty := by
  cases xs with
  | nil => rw [h.nil_of] <;> rfl
  | cons d r =>
    obtain ⟨v, us, rfl, _, _⟩ := h.cons_of
    rfl
theorem truth_is {K : PySem.W.Frag} {d : D} {v : V} {b : Bool} (r : RelS Z g H s) (h : truth s d = some b) (hv : Rep g.φ H d v) : L2.TruV K v H b := by
  cases d with
  | non => rw [rep_non hv]; cases h; rfl
  | bl c => rw [rep_bl hv]; cases h; rfl
  | int i => rw [rep_int hv]; cases h; rfl
  | str x =>
    rw [rep_str hv]
    simp only [truth] at h
    cases e : okLine x.cps.size with
    | false => rw [e] at h; cases h
    | true =>
      rw [e] at h
      cases h
      refine ⟨okLine_le e, ?_⟩
      show (x.cps.size != 0) = (((x.cps.size : Nat) : Int) != 0)
      by_cases hz : x.cps.size = 0
      · rw [hz] <;> rfl
      · have h1 : (x.cps.size != 0) = true := by simpa using hz
        have h2 : (((x.cps.size : Nat) : Int) != 0) = true := by
          simp only [bne_iff_ne, ne_eq]
          omega
        rw [h1, h2]
  | tup xs =>
    obtain ⟨a, vs, rfl, h2, h3⟩ := rep_tup hv
    cases h
    exact .inr (.inl ⟨vs, .inl (.inl h2), by rw [reps_empty h3]⟩)
  | ref k =>
    simp only [truth] at h
    cases e : s.lstAt k with
    | some xs =>
      simp only [e] at h
      cases h
      obtain ⟨a, vs, rfl, h2, h3⟩ := r.lstAt e hv
      exact .inl ⟨vs, .inl h2, by rw [reps_empty h3]⟩
    | none =>
      simp only [e] at h
      cases e2 : s.dctAt k with
      | none => simp only [e2] at h; cases h
      | some kvs =>
        simp only [e2] at h
        cases h
        obtain ⟨a, kus, rfl, h2, h3⟩ := r.dctAt e2 hv
        refine .inr (.inr ⟨kus, h2, ?_⟩)
        cases h3 <;> rfl
theorem fin_truth {K' : PySem.W.Frag} {d : D} {v : V} {K : Bool → S → Gh → Hp → Prop} (r : RelS Z g H s) (hv : Rep g.φ H d v) (h : Fin Z W σ g H s (truthR s d) K) : ∃ b, L2.TruV K' v H b ∧ K b s g H := by
  unfold truthR at h
  cases e : truth s d with
  | none => simp only [e] at h; exact h.elim
  | some b => simp only [e] at h; exact ⟨b, truth_is r e hv, fin_ok r h⟩

/-! ### two-place operations -/
/-- what the reading r of a two-place operation f promises -/
def OpS (K : PySem.W.Frag) (r : L2.R2) (f : S → D → D → R D) : Prop := ∀ (Z : Zx) (W : WX) (σ : L2.St) (g : Gh) (H : Hp) (s : S) (x y : D) (v u : V) (Q : VK), RelS Z g H s → Rep g.φ H x v → Rep g.φ H y u → Fin Z W σ g H s (f s x y) (KV Q) → r v u H Q
theorem log2_le {i j : Int} (h : Nat.blt (bits i + bits j) 1000000 = true) : L2.CMulW i j := by
  exact blt_lt h
def rBin (K : PySem.W.Frag) : Bo → L2.R2
  | .add => fun x y H Q => L2.rI0 (fun i j => .int (i + j)) x y H Q ∨ (L2.rCat x y H Q ∨ L2.rCatA K x y H Q)
  | .sub => L2.rI0 fun i j => .int (i - j)
  | .mul => L2.rI L2.CMulW fun i j => .int (i * j)
  | .fdiv => fun x y H Q => L2.rI L2.CDivW (fun i j => .int (i / j)) x y H Q ∨ L2.rI L2.CDivN (fun i j => .int (i.fdiv j)) x y H Q
  | .mod => fun x y H Q => L2.rI (fun _ j => 0 < j) (fun i j => .int (i % j)) x y H Q ∨ L2.rI (fun _ j => j ≠ 0) (fun i j => .int (i.fmod j)) x y H Q
  | .pow => L2.rI L2.CPow fun i j => .int (i ^ j.toNat)
theorem bin_op {op : Operator} {o : Bo} (h : trBo op = some o) : L2.OpR X (binaryOp op) (rBin X.K o) := by
  cases op <;> cases h
  · exact L2.op_add.or (L2.op_cat.or L2.op_catA)
  · exact L2.op_sub
  · exact L2.op_mulW
  · exact L2.op_mod.or L2.op_modN
  · exact L2.op_pow
  · exact L2.op_fdivW.or L2.op_fdivN
theorem bin_is (K : PySem.W.Frag) (o : Bo) : OpS K (rBin K o) (binW o) := by
  intro Z W σ g H s x y v u Q r hx hy h
  unfold binW at h
  split at h
  · rw [rep_int hx, rep_int hy]
    exact .inl ⟨_, _, rfl, rfl, fin_val r h (Rep.int _)⟩
  · rw [rep_int hx, rep_int hy]
    exact ⟨_, _, rfl, rfl, fin_val r h (Rep.int _)⟩
  · obtain ⟨hb, h⟩ := fin_guard h
    rw [rep_int hx, rep_int hy]
    exact ⟨_, _, rfl, rfl, log2_le hb, fin_val r h (Rep.int _)⟩
  · rename_i i j
    rw [rep_int hx, rep_int hy]
    cases hb : (decide (0 < j) && Nat.blt (bits j) 9000) with
    | true =>
      rw [hb] at h
      simp only [Bool.and_eq_true, decide_eq_true_eq] at hb
      exact .inl ⟨_, _, rfl, rfl, ⟨hb.1, blt_lt hb.2⟩, fin_val r h (Rep.int _)⟩
    | false =>
      rw [hb] at h
      obtain ⟨hc, h⟩ := fin_guard h
      simp only [Bool.and_eq_true, decide_eq_true_eq] at hc
      exact .inr ⟨_, _, rfl, rfl, ⟨hc.1, blt_lt hc.2⟩, fin_val r h (Rep.int _)⟩
  · rename_i i j
    rw [rep_int hx, rep_int hy]
    cases hb : decide (0 < j) with
    | true =>
      rw [hb] at h
      exact .inl ⟨_, _, rfl, rfl, of_decide_eq_true hb, fin_val r h (Rep.int _)⟩
    | false =>
      rw [hb] at h
      obtain ⟨hc, h⟩ := fin_guard h
      exact .inr ⟨_, _, rfl, rfl, of_decide_eq_true hc, fin_val r h (Rep.int _)⟩
  · obtain ⟨hb, h⟩ := fin_guard h
    rw [rep_int hx, rep_int hy]
    simp only [Bool.and_eq_true, decide_eq_true_eq] at hb
    exact ⟨_, _, rfl, rfl, ⟨hb.1.1, hb.1.2, blt_lt hb.2⟩, fin_val r h (Rep.int _)⟩
  · rename_i k l
    cases e1 : s.lstMut k with
    | none => simp only [e1] at h; exact h.elim
    | some xs =>
      cases e2 : s.lstMut l with
      | none => simp only [e1, e2] at h; exact h.elim
      | some ys =>
        simp only [e1, e2] at h
        unfold S.newL at h
        obtain ⟨hb, h⟩ := fin_guard h
        obtain ⟨a, vs, rfl, _, h4, h5⟩ := r.lstMut e1 hx
        obtain ⟨b, us, rfl, _, h6, h7⟩ := r.lstMut e2 hy
        refine .inr (.inl ⟨a, b, vs, us, rfl, rfl, h4, h6, ?_, fun p hp => fin_new r h (h5.append h7) hp⟩)
        rw [← h5.len, ← h7.len, ← List.length_append]
        exact okLine_le hb
  · rename_i xs ys
    unfold newT at h
    obtain ⟨hb, h⟩ := fin_guard h
    obtain ⟨a, vs, rfl, h4, h5⟩ := rep_tup hx
    obtain ⟨b, us, rfl, h6, h7⟩ := rep_tup hy
    refine .inr (.inr ⟨a, b, vs, us, rfl, rfl, .inl (.inl h4), .inl (.inl h6), ?_, fun hz => ?_, fun _ hz => ?_, fun _ _ p hp => fin_tup r h (h5.append h7) hp⟩)
    · rw [← h5.len, ← h7.len, ← List.length_append]
      exact okLine_le hb
    · subst hz
      have : xs = [] := List.length_eq_zero_iff.mp h5.len
      subst this
      exact fin_val r h (Rep.tup h6 h7)
    · subst hz
      have : ys = [] := List.length_eq_zero_iff.mp h7.len
      subst this
      rw [List.append_nil] at h
      exact fin_val r h (Rep.tup h4 h5)
  · exact h.elim
end
end Ev
/-! EvD2: comparisons, subscripts, built-ins. -/
namespace Ev
open PySem PySem.Spec PyProof.Rows
open L2 (V HO Hp Cx Inv PE PT PA PS PSs PG PI RelV Vals upd upd_same upd_ne SqL SqT TE TT TA TS TG TI WX XK VK)
section
variable {Z : Zx} {W : WX} {σ : L2.St} {g g1 : Gh} {H H1 : Hp} {s s1 : S} {α β : Type} {X : Cx}
theorem iop_mulW : L2.OpR X (inplaceOp .Mult) (L2.rI L2.CMulW fun i j => .int (i * j)) := L2.opI fun _ _ _ _ _ _ _ hc q => imul_int q hc.ok
def rAug : Bo → L2.R2
  | .add => L2.rI0 fun i j => .int (i + j)
  | .sub => L2.rI0 fun i j => .int (i - j)
  | .mul => L2.rI L2.CMulW fun i j => .int (i * j)
  | .fdiv => L2.rI L2.CDiv fun i j => .int (i / j)
  | .mod => L2.rI (fun _ j => 0 < j) fun i j => .int (i % j)
  | .pow => fun _ _ _ _ => False
theorem aug_op {op : Operator} {o : Bo} (h : trBo op = some o) : L2.OpR X (inplaceOp op) (rAug o) := by
  cases op <;> cases h
  · exact L2.iop_add
  · exact L2.iop_sub
  · exact iop_mulW
  · exact L2.iop_mod
  · exact fun _ _ _ _ _ _ _ _ _ _ _ _ h => h.elim
  · exact L2.iop_fdiv
theorem aug_is (K : PySem.W.Frag) (o : Bo) : OpS K (rAug o) (augW o) := by
  intro Z W σ g H s x y v u Q r hx hy h
  unfold augW at h
  split at h
  · rw [rep_int hx, rep_int hy]
    exact ⟨_, _, rfl, rfl, fin_val r h (Rep.int _)⟩
  · rw [rep_int hx, rep_int hy]
    exact ⟨_, _, rfl, rfl, fin_val r h (Rep.int _)⟩
  · obtain ⟨hb, h⟩ := fin_guard h
    rw [rep_int hx, rep_int hy]
    exact ⟨_, _, rfl, rfl, log2_le hb, fin_val r h (Rep.int _)⟩
  · obtain ⟨hb, h⟩ := fin_guard h
    rw [rep_int hx, rep_int hy]
    simp only [Bool.and_eq_true, decide_eq_true_eq] at hb
    exact ⟨_, _, rfl, rfl, ⟨hb.1, by have := blt_lt hb.2; omega⟩, fin_val r h (Rep.int _)⟩
  · obtain ⟨hb, h⟩ := fin_guard h
    rw [rep_int hx, rep_int hy]
    exact ⟨_, _, rfl, rfl, of_decide_eq_true hb, fin_val r h (Rep.int _)⟩
  · exact h.elim

/-! ### == -/
theorem mapO_cons {f : α → Option β} {a : α} {r : List α} {bs : List β} (h : mapO f (a :: r) = some bs) : ∃ b cs, f a = some b ∧ mapO f r = some cs ∧ bs = b :: cs := by
  unfold mapO at h
  cases e : f a with
  | none => simp only [e] at h; cases h
  | some b =>
    cases e2 : mapO f r with
    | none => simp only [e, e2] at h; cases h
    | some cs =>
      simp only [e, e2] at h
      cases h
      exact ⟨b, cs, rfl, rfl, rfl⟩
theorem toDs_is {K : PySem.W.Frag} {f : Nat} (ih : ∀ (d : D) (v : V) (e : PyData), toD s f d = some e → Rep g.φ H d v → L2.Dp K H v e ∧ e.canLay0 = true ∧ e.depth ≤ f) :
    ∀ (xs : List D) (vs : List V) (es : List PyData), mapO (toD s f) xs = some es → Reps g.φ H xs vs → L2.DpAll K H vs es ∧ PyData.canLayAll0 es = true ∧ PyData.depthAll es ≤ f
  | [], vs, es, h, hv => by
    cases h
    rw [hv.nil_of]
    exact ⟨.nil, rfl, Nat.zero_le _⟩
  | x :: xs, vs, es, h, hv => by
    obtain ⟨e, es', h1, h2, rfl⟩ := mapO_cons h
    obtain ⟨v, us, rfl, h3, h4⟩ := hv.cons_of
    obtain ⟨a1, a2, a3⟩ := ih x v e h1 h3
    obtain ⟨b1, b2, b3⟩ := toDs_is ih xs us es' h2 h4
    refine ⟨.cons a1 b1, by simp only [PyData.canLayAll0, a2, b2, Bool.and_self], ?_⟩
    simp only [PyData.depthAll]
    exact Nat.max_le.mpr ⟨a3, b3⟩
theorem toD_is {K : PySem.W.Frag} (r : RelS Z g H s) : ∀ (f : Nat) (d : D) (v : V) (e : PyData), toD s f d = some e → Rep g.φ H d v → L2.Dp K H v e ∧ e.canLay0 = true ∧ e.depth ≤ f
  | 0, _, _, _, h, _ => by unfold toD at h; cases h
  | f + 1, d, v, e, h, hv => by
    cases d with
    | non => cases h; rw [rep_non hv]; exact ⟨.non, rfl, by simp [PyData.depth]⟩
    | bl b => cases h; rw [rep_bl hv]; exact ⟨.bl b, rfl, by simp [PyData.depth]⟩
    | int i => cases h; rw [rep_int hv]; exact ⟨.int i, rfl, by simp [PyData.depth]⟩
    | str x =>
      simp only [toD] at h
      cases hb : x.cps.all (· < 0x110000) with
      | false => rw [hb] at h; cases h
      | true => rw [hb] at h; cases h; rw [rep_str hv]; exact ⟨.str x, hb, by simp [PyData.depth]⟩
    | tup xs =>
      simp only [toD] at h
      cases hm : mapO (toD s f) xs with
      | none => rw [hm] at h; cases h
      | some es =>
        rw [hm] at h
        cases h
        obtain ⟨a, vs, rfl, h2, h3⟩ := rep_tup hv
        obtain ⟨a1, a2, a3⟩ := toDs_is (fun d v e h hv => toD_is r f d v e h hv) xs vs es hm h3
        exact ⟨.tup (.inl (.inl h2)) a1, by simpa only [PyData.canLay0] using a2, by simp only [PyData.depth]; omega⟩
    | ref k =>
      simp only [toD] at h
      cases hk : s.lstAt k with
      | none => simp only [hk] at h; cases h
      | some xs =>
        simp only [hk] at h
        cases hm : mapO (toD s f) xs with
        | none => rw [hm] at h; cases h
        | some es =>
          rw [hm] at h
          cases h
          obtain ⟨a, vs, rfl, h2, h3⟩ := r.lstAt hk hv
          obtain ⟨a1, a2, a3⟩ := toDs_is (fun d v e h hv => toD_is r f d v e h hv) xs vs es hm h3
          exact ⟨.lst (.inl h2) a1, by simpa only [PyData.canLay0] using a2, by simp only [PyData.depth]; omega⟩
theorem shaped_of {e : PyData} (h : e.canLay0 = true) (hd : e.depth ≤ 40) : SeqAt.shaped e = true := by
  unfold SeqAt.shaped
  rw [h, decide_eq_true (by omega)]
  rfl
theorem eq_is {K : PySem.W.Frag} {x y : D} {v u : V} {b : Bool} (r : RelS Z g H s) (h : eqW s x y = some b) (hx : Rep g.φ H x v) (hy : Rep g.φ H y u) :
    ∃ d e, L2.Dp K H v d ∧ L2.Dp K H u e ∧ SeqAt.shaped d = true ∧ SeqAt.shaped e = true ∧ PyData.eqv d e = b := by
  unfold eqW at h
  split at h
  · cases h
    rw [rep_int hx, rep_int hy]
    exact ⟨_, _, .int _, .int _, rfl, rfl, rfl⟩
  · cases e1 : toD s 40 x with
    | none => simp only [e1] at h; cases h
    | some d =>
      cases e2 : toD s 40 y with
      | none => simp only [e1, e2] at h; cases h
      | some e =>
        simp only [e1, e2] at h
        cases h
        obtain ⟨a1, a2, a3⟩ := toD_is r 40 x v d e1 hx
        obtain ⟨b1, b2, b3⟩ := toD_is r 40 y u e e2 hy
        exact ⟨d, e, a1, b1, shaped_of a2 a3, shaped_of b2 b3, rfl⟩
theorem allInt_is : ∀ {xs : List D} {ns : List Int} {vs : List V}, allInt xs = some ns → Reps g.φ H xs vs → vs = ns.map V.int
  | [], _, _, h, hv => by cases h; rw [hv.nil_of] <;> rfl
  | x :: xs, ns, vs, h, hv => by
    cases x with
    | int i =>
      simp only [allInt] at h
      cases e : allInt xs with
      | none => rw [e] at h; cases h
      | some ms =>
        rw [e] at h
        cases h
        obtain ⟨v, us, rfl, h2, h3⟩ := hv.cons_of
        rw [rep_int h2, allInt_is e h3] <;> rfl
    | _ => cases h
theorem allBl_is : ∀ {xs : List D} {bs : List Bool} {vs : List V}, allBl xs = some bs → Reps g.φ H xs vs → vs = bs.map V.bl
  | [], _, _, h, hv => by cases h; rw [hv.nil_of] <;> rfl
  | x :: xs, ns, vs, h, hv => by
    cases x with
    | bl i =>
      simp only [allBl] at h
      cases e : allBl xs with
      | none => rw [e] at h; cases h
      | some ms =>
        rw [e] at h
        cases h
        obtain ⟨v, us, rfl, h2, h3⟩ := hv.cons_of
        rw [rep_bl h2, allBl_is e h3] <;> rfl
    | _ => cases h
theorem ltInts_is : ∀ ns ms : List Int, HT.lexLt ns ms = ltInts ns ms
  | [], [] => rfl
  | [], _ :: _ => rfl
  | _ :: _, [] => rfl
  | i :: ns, j :: ms => by
    rw [HT.lexLt_cons, ltInts_is ns ms]
    show _ = bif i == j then _ else _
    by_cases h : i = j
    · rw [if_pos h, beq_iff_eq.mpr h] <;> rfl
    · rw [if_neg h, beq_false_of_ne h] <;> rfl
def rCmp (K : PySem.W.Frag) : Co → L2.R2
  | .eq => L2.rEqD K
  | .ne => L2.rNeD K
  | .lt => fun x y H Q => L2.rI0 (fun i j => .bl (decide (i < j))) x y H Q ∨ L2.rLtT K x y H Q
  | .le => L2.rI0 fun i j => .bl (decide (i ≤ j))
  | .gt => L2.rI0 fun i j => .bl (decide (j < i))
  | .ge => L2.rI0 fun i j => .bl (decide (j ≤ i))
  | .isn => fun x y H Q => y = .non ∧ Q (.bl (decide (x = .non))) H
  | .notn => fun x y H Q => y = .non ∧ Q (.bl (!decide (x = .non))) H
theorem cmp_op {op : CmpOp} {o : Co} (hu : X.A.units + 64 < cLine) (h : trCo op = some o) : L2.OpR X (compareOp op) (rCmp X.K o) := by
  cases op <;> cases h
  · exact L2.op_eqD hu
  · exact L2.op_neD hu
  · exact L2.op_lt.or (L2.op_ltT (by omega))
  · exact L2.op_le
  · exact L2.op_gt
  · exact L2.op_ge
  · exact L2.op_isN
  · exact L2.op_notN
theorem rep_is_non {d : D} {v : V} (h : Rep g.φ H d v) : decide (v = .non) = isNon d := by
  cases d with
  | non => rw [rep_non h] <;> rfl
  | bl b => rw [rep_bl h] <;> rfl
  | int i => rw [rep_int h] <;> rfl
  | str x => rw [rep_str h] <;> rfl
  | ref k => obtain ⟨a, _, rfl⟩ := rep_ref h; rfl
  | tup xs => obtain ⟨a, vs, rfl, _⟩ := rep_tup h; rfl
theorem cmp_is (K : PySem.W.Frag) (o : Co) : OpS K (rCmp K o) (cmpW o) := by
  intro Z W σ g H s x y v u Q r hx hy h
  unfold cmpW at h
  split at h
  · cases e : eqW s x y with
    | none => simp only [e] at h; exact h.elim
    | some b =>
      simp only [e] at h
      obtain ⟨d, e', h1, h2, h3, h4, h5⟩ := eq_is (K := K) r e hx hy
      exact ⟨d, e', h1, h2, h3, h4, by rw [h5]; exact fin_val r h (Rep.bl _)⟩
  · cases e : eqW s x y with
    | none => simp only [e] at h; exact h.elim
    | some b =>
      simp only [e] at h
      obtain ⟨d, e', h1, h2, h3, h4, h5⟩ := eq_is (K := K) r e hx hy
      exact ⟨d, e', h1, h2, h3, h4, by rw [h5]; exact fin_val r h (Rep.bl _)⟩
  · split at h
    · rw [rep_int hx, rep_int hy]
      exact .inl ⟨_, _, rfl, rfl, fin_val r h (Rep.bl _)⟩
    · rename_i xs ys
      cases e1 : allInt xs with
      | none => simp only [e1] at h; exact h.elim
      | some ns =>
        cases e2 : allInt ys with
        | none => simp only [e1, e2] at h; exact h.elim
        | some ms =>
          simp only [e1, e2] at h
          obtain ⟨a, vs, rfl, h4, h5⟩ := rep_tup hx
          obtain ⟨b, us, rfl, h6, h7⟩ := rep_tup hy
          rw [allInt_is e1 h5] at h4
          rw [allInt_is e2 h7] at h6
          exact .inr ⟨a, b, ns, ms, rfl, rfl, .inl (.inl h4), .inl (.inl h6), by rw [ltInts_is]; exact fin_val r h (Rep.bl _)⟩
    · exact h.elim
  · split at h
    · rw [rep_int hx, rep_int hy]
      exact ⟨_, _, rfl, rfl, fin_val r h (Rep.bl _)⟩
    · exact h.elim
  · split at h
    · rw [rep_int hx, rep_int hy]
      exact ⟨_, _, rfl, rfl, fin_val r h (Rep.bl _)⟩
    · exact h.elim
  · split at h
    · rw [rep_int hx, rep_int hy]
      exact ⟨_, _, rfl, rfl, fin_val r h (Rep.bl _)⟩
    · exact h.elim
  · split at h
    · rw [rep_non hy]
      exact ⟨rfl, by rw [rep_is_non hx]; exact fin_val r h (Rep.bl _)⟩
    · exact h.elim
  · split at h
    · rw [rep_non hy]
      exact ⟨rfl, by rw [rep_is_non hx]; exact fin_val r h (Rep.bl _)⟩
    · exact h.elim

/-! ### x[i], x[i:j] -/
theorem ixN_is (n : Nat) (i : Int) : L2.ixN n i = ixN n i := by
  unfold L2.ixN ixN
  by_cases h : 0 ≤ i
  · rw [if_pos h, decide_eq_true h]
    by_cases h2 : i < n
    · rw [if_pos h2, decide_eq_true h2] <;> rfl
    · rw [if_neg h2, decide_eq_false h2] <;> rfl
  · rw [if_neg h, decide_eq_false h]
    by_cases h2 : -(n : Int) ≤ i
    · rw [if_pos h2, decide_eq_true h2] <;> rfl
    · rw [if_neg h2, decide_eq_false h2] <;> rfl
theorem sIx_is (n d : Nat) (o : Option Int) : HT.sIx n d o = sIx n d o := by
  cases o with
  | none => rfl
  | some i =>
    show (if i < 0 then (i + n).toNat else min i.toNat n) = (bif decide (i < 0) then (i + n).toNat else min i.toNat n)
    by_cases h : i < 0
    · rw [if_pos h, decide_eq_true h] <;> rfl
    · rw [if_neg h, decide_eq_false h] <;> rfl
theorem idx_is (K : PySem.W.Frag) : OpS K (L2.rIx K) idxW := by
  intro Z W σ g H s x y v u Q r hx hy h
  unfold idxW at h
  split at h
  · rename_i j
    cases e : seqOf s x with
    | none => simp only [e] at h; exact h.elim
    | some p =>
      obtain ⟨b, xs⟩ := p
      simp only [e] at h
      cases e2 : (ixN xs.length j).bind (xs[·]?) with
      | none => simp only [e2] at h; exact h.elim
      | some d =>
        simp only [e2] at h
        obtain ⟨a, vs, rfl, h2, h3, h4⟩ := seqOf_is (K := K) r e hx
        rw [rep_int hy]
        obtain ⟨p, hp, hd⟩ := Option.bind_eq_some_iff.mp e2
        obtain ⟨w, hw, hr⟩ := h2.get hd
        have at_ : L2.atI vs j = some w := by
          unfold L2.atI
          rw [ixN_is, ← h2.len, hp]
          exact hw
        cases b with
        | false => exact .inl ⟨a, vs, j, w, rfl, rfl, h3 rfl, at_, fin_val r h hr⟩
        | true => exact .inr (.inl ⟨a, vs, j, w, rfl, rfl, .inl (.inl (h4 rfl)), at_, fin_val r h hr⟩)
  · exact h.elim
end
end Ev
/-! EvD3: slices, built-ins, methods. -/
namespace Ev
open PySem PySem.Spec PyProof.Rows
open L2 (V HO Hp Cx Inv PE PT PA PS PSs PG PI RelV Vals upd upd_same upd_ne SqL SqT TE TT TA TS TG TI WX XK VK)
section
variable {Z : Zx} {W : WX} {σ : L2.St} {g g1 : Gh} {H H1 : Hp} {s s1 : S} {α β : Type} {X : Cx}
def rSl (K : PySem.W.Frag) : V → Option Int → Option Int → Hp → VK → Prop := fun x lo hi H Q => L2.rSlL K x lo hi H Q ∨ L2.rSlA K x lo hi H Q
theorem sl_op : L2.SlR X (rSl X.K) := L2.sl_list.or L2.sl_tupA
theorem cut_is {φ : List Addr} {xs : List D} {vs : List V} (h : Reps φ H xs vs) (lo hi : Option Int) : Reps φ H (cut xs lo hi) (L2.cutV vs lo hi) := by
  unfold cut L2.cutV
  rw [sIx_is, sIx_is, ← h.len]
  exact (h.drop _).take _
theorem sl_is {K : PySem.W.Frag} {x : D} {v : V} {lo hi : Option Int} {Q : VK} (r : RelS Z g H s) (hx : Rep g.φ H x v) (h : Fin Z W σ g H s (slW s x lo hi) (KV Q)) : rSl K v lo hi H Q := by
  unfold slW at h
  cases e : seqOf s x with
  | none => simp only [e] at h; exact h.elim
  | some p =>
    obtain ⟨b, xs⟩ := p
    obtain ⟨a, vs, rfl, h2, h3, h4⟩ := seqOf_is (K := K) r e hx
    cases b with
    | false =>
      simp only [e] at h
      exact .inl ⟨a, vs, rfl, h3 rfl, fun p hp => fin_new r h (cut_is h2 lo hi) hp⟩
    | true =>
      simp only [e] at h
      refine .inr ⟨a, vs, rfl, .inl (.inl (h4 rfl)), fun hz => ?_, fun _ p hp => fin_tup r h (cut_is h2 lo hi) hp⟩
      have : cut xs lo hi = xs := by
        unfold cut
        rw [← sIx_is, ← sIx_is, h2.len, hz.1, hz.2, List.drop_zero, ← h2.len]
        simp
      rw [this] at h
      exact fin_val r h (Rep.tup (h4 rfl) h2)

/-! ### built-ins -/
theorem reps1 {φ : List Addr} {d : D} {vs : List V} (h : Reps φ H [d] vs) : ∃ v, vs = [v] ∧ Rep φ H d v := by
  obtain ⟨v, us, rfl, h2, h3⟩ := h.cons_of
  rw [h3.nil_of]
  exact ⟨v, rfl, h2⟩
theorem reps2 {φ : List Addr} {d e : D} {vs : List V} (h : Reps φ H [d, e] vs) : ∃ v u, vs = [v, u] ∧ Rep φ H d v ∧ Rep φ H e u := by
  obtain ⟨v, us, rfl, h2, h3⟩ := h.cons_of
  obtain ⟨u, rfl, h4⟩ := reps1 h3
  exact ⟨v, u, rfl, h2, h4⟩
/-- what the reading r of a built-in f of one argument promises -/
def Cal1 (r : List V → Hp → VK → Prop) (f : S → D → R D) : Prop := ∀ (Z : Zx) (W : WX) (σ : L2.St) (g : Gh) (H : Hp) (s : S) (d : D) (v : V) (Q : VK), RelS Z g H s → Rep g.φ H d v → Fin Z W σ g H s (f s d) (KV Q) → r [v] H Q
theorem len_is (K : PySem.W.Frag) : Cal1 (fun xs H Q => ∃ x n, xs = [x] ∧ L2.LenV K x H n ∧ Q (.int n) H) lenW := by
  intro Z W σ g H s d v Q r hv h
  unfold lenW at h
  split at h
  · rename_i x
    obtain ⟨hb, h⟩ := fin_guard h
    rw [rep_str hv]
    exact ⟨_, x.cps.size, rfl, ⟨okLine_le hb, rfl⟩, fin_val r h (Rep.int _)⟩
  · cases e : seqOf s d with
    | none => simp only [e] at h; exact h.elim
    | some p =>
      obtain ⟨b, xs⟩ := p
      simp only [e] at h
      obtain ⟨a, vs, rfl, h2, h3, h4⟩ := seqOf_is (K := K) r e hv
      refine ⟨_, xs.length, rfl, ?_, fin_val r h (Rep.int _)⟩
      cases b with
      | false => exact .inl ⟨vs, h3 rfl, h2.len⟩
      | true => exact .inr ⟨vs, .inl (.inl (h4 rfl)), h2.len⟩
theorem tuple_is (K : PySem.W.Frag) : Cal1 (fun xs H Q => ∃ p ys, xs = [.ref p] ∧ ((SqL K H p ys ∧ ∀ l, H l = none → Q (.ref l) (upd H l (.tup ys))) ∨ (SqT K H p ys ∧ Q (.ref p) H))) tupleW := by
  intro Z W σ g H s d v Q r hv h
  unfold tupleW at h
  cases e : seqOf s d with
  | none => simp only [e] at h; exact h.elim
  | some p =>
    obtain ⟨b, xs⟩ := p
    simp only [e] at h
    obtain ⟨a, vs, rfl, h2, h3, h4⟩ := seqOf_is (K := K) r e hv
    refine ⟨a, vs, rfl, ?_⟩
    cases b with
    | false => exact .inl ⟨h3 rfl, fun l hl => fin_tup r h h2 hl⟩
    | true => exact .inr ⟨.inl (.inl (h4 rfl)), fin_val r h (Rep.tup (h4 rfl) h2)⟩
theorem list_is (K : PySem.W.Frag) : Cal1 (fun xs H Q => ∃ p ys, xs = [.ref p] ∧ (SqL K H p ys ∨ SqT K H p ys) ∧ ∀ l, H l = none → Q (.ref l) (upd H l (.lst ys))) listW := by
  intro Z W σ g H s d v Q r hv h
  unfold listW at h
  cases e : seqOf s d with
  | none => simp only [e] at h; exact h.elim
  | some p =>
    obtain ⟨b, xs⟩ := p
    simp only [e] at h
    obtain ⟨a, vs, rfl, h2, h3, h4⟩ := seqOf_is (K := K) r e hv
    refine ⟨a, vs, rfl, ?_, fun l hl => fin_new r h h2 hl⟩
    cases b with
    | false => exact .inl (h3 rfl)
    | true => exact .inr (.inl (.inl (h4 rfl)))
theorem int_is : Cal1 (fun xs H Q => (∃ i, xs = [.int i] ∧ Q (.int i) H) ∨ ∃ k, xs = [.bl k] ∧ Q (.int (if k then 1 else 0)) H) intW := by
  intro Z W σ g H s d v Q r hv h
  unfold intW at h
  split at h
  · rw [rep_int hv]
    exact .inl ⟨_, rfl, fin_val r h (Rep.int _)⟩
  · rename_i b
    rw [rep_bl hv]
    refine .inr ⟨b, rfl, ?_⟩
    have : (bif b then (1 : Int) else 0) = if b = true then 1 else 0 := by cases b <;> rfl
    rw [this] at h
    exact fin_val r h (Rep.int _)
  · exact h.elim
theorem abs_is : Cal1 (fun xs H Q => ∃ i, xs = [.int i] ∧ Q (.int (if i < 0 then -i else i)) H) absW := by
  intro Z W σ g H s d v Q r hv h
  unfold absW at h
  split at h
  · rename_i i
    rw [rep_int hv]
    refine ⟨i, rfl, ?_⟩
    have : (bif decide (i < 0) then -i else i) = if i < 0 then -i else i := by
      by_cases hi : i < 0
      · rw [if_pos hi, decide_eq_true hi] <;> rfl
      · rw [if_neg hi, decide_eq_false hi] <;> rfl
    rw [this] at h
    exact fin_val r h (Rep.int _)
  · exact h.elim
theorem lstOf_is {K : PySem.W.Frag} {d : D} {xs : List D} {v : V} (r : RelS Z g H s) (h : lstOf s d = some xs) (hv : Rep g.φ H d v) : ∃ a vs, v = .ref a ∧ SqL K H a vs ∧ Reps g.φ H xs vs := by
  cases d with
  | ref k =>
    obtain ⟨a, vs, h1, h2, h3⟩ := r.lstAt h hv
    exact ⟨a, vs, h1, .inl h2, h3⟩
  | _ => cases h
theorem all_is (K : PySem.W.Frag) : Cal1 (L2.rAll K) allW := by
  intro Z W σ g H s d v Q r hv h
  unfold allW at h
  cases e : (lstOf s d).bind allBl with
  | none => simp only [e] at h; exact h.elim
  | some bs =>
    simp only [e] at h
    obtain ⟨xs, h1, h2⟩ := Option.bind_eq_some_iff.mp e
    obtain ⟨a, vs, rfl, h3, h4⟩ := lstOf_is (K := K) r h1 hv
    rw [allBl_is h2 h4] at h3
    exact ⟨a, bs, rfl, h3, fin_val r h (Rep.bl _)⟩
theorem sum_is (K : PySem.W.Frag) : Cal1 (L2.rSum K) sumW := by
  intro Z W σ g H s d v Q r hv h
  unfold sumW at h
  cases e : (lstOf s d).bind allInt with
  | none => simp only [e] at h; exact h.elim
  | some bs =>
    simp only [e] at h
    obtain ⟨xs, h1, h2⟩ := Option.bind_eq_some_iff.mp e
    obtain ⟨a, vs, rfl, h3, h4⟩ := lstOf_is (K := K) r h1 hv
    rw [allInt_is h2 h4] at h3
    exact ⟨a, bs, rfl, h3, fin_val r h (Rep.int _)⟩
theorem items_is {v : V} {d : D} {Q : VK} (r : RelS Z g H s) (hv : Rep g.φ H d v) (h : Fin Z W σ g H s (itemsW s d) (KV Q)) : LiI.rItemsL v H Q := by
  unfold itemsW at h
  split at h
  · rename_i k
    split at h
    · rename_i e
      obtain ⟨a, kus, rfl, h2, h3⟩ := r.dctAt e hv
      cases h3
      refine ⟨a, [], rfl, h2, fun H' p ts he hp _ _ h1 h5 => ?_⟩
      cases h5
      exact fin_lst r h he reps_nil hp h1
    · exact h.elim
  · exact h.elim
theorem divmod_is {x y : D} {v u : V} {Q : VK} (r : RelS Z g H s) (hx : Rep g.φ H x v) (hy : Rep g.φ H y u) (h : Fin Z W σ g H s (divmodW s x y) (KV Q)) :
    ∃ i j, [v, u] = [V.int i, V.int j] ∧ L2.CDiv i j ∧ ∀ p, H p = none → Q (.ref p) (upd H p (.tup [.int (i / j), .int (i % j)])) := by
  unfold divmodW at h
  split at h
  · obtain ⟨hb, h⟩ := fin_guard h
    simp only [Bool.and_eq_true, decide_eq_true_eq] at hb
    rw [rep_int hx, rep_int hy]
    exact ⟨_, _, rfl, hb, fun p hp => fin_tup r h (reps_cons (Rep.int _) (reps_cons (Rep.int _) reps_nil)) hp⟩
  · exact h.elim

/-! ### isinstance -/
def tyS : Option Ty → String
  | none => "NoneType"
  | some .list => "list"
  | some .tuple => "tuple"
  | some .int => "int"
  | some .bool => "bool"
  | some .str => "str"
  | some .dict => "dict"
theorem tyOf_is {K : PySem.W.Frag} {d : D} {v : V} {t : Option Ty} (r : RelS Z g H s) (h : tyOf s d = some t) (hv : Rep g.φ H d v) : L2.TyX K H v (.type (tyS t)) := by
  cases d with
  | non => cases h; rw [rep_non hv]; exact .base .non
  | bl b => cases h; rw [rep_bl hv]; exact .base (.bl b)
  | int i => cases h; rw [rep_int hv]; exact .base (.int i)
  | str x => cases h; rw [rep_str hv]; exact .base (.str x)
  | tup xs =>
    cases h
    obtain ⟨a, vs, rfl, h2, _⟩ := rep_tup hv
    exact .base (.tup h2)
  | ref k =>
    simp only [tyOf] at h
    cases e : s.lstAt k with
    | some xs =>
      simp only [e] at h
      cases h
      obtain ⟨a, vs, rfl, h2, _⟩ := r.lstAt e hv
      rcases h2 with h2 | ⟨o, h2⟩
      · exact .base (.lst h2)
      · exact .base (.frz h2)
    | none =>
      simp only [e] at h
      cases e2 : s.dctAt k with
      | none => simp only [e2] at h; cases h
      | some kvs =>
        simp only [e2] at h
        cases h
        obtain ⟨a, kus, rfl, h2, _⟩ := r.dctAt e2 hv
        exact .base (.dK h2)
theorem kitB_is (t : Option Ty) (u : Ty) : L2.kitB (tyS t) (tyS (some u)) = some (instB t u) := by
  cases t with
  | none => cases u <;> decide +kernel
  | some t => cases t <;> cases u <;> decide +kernel
theorem kit_any {K : PySem.W.Frag} (t : Option Ty) : ∀ ts : List Ty, PySem.W.kitAny K (.type (tyS t)) (ts.map fun u => .type (tyS (some u))) = some (ts.any (instB t))
  | [] => L2.kitAny_nil
  | u :: ts => by
    refine L2.kitAny_cons (L2.kit_ty (kitB_is t u)) (fun hb => ?_) (fun hb => ?_)
    · rw [kit_any t ts, List.any_cons, hb, Bool.false_or]
    · rw [List.any_cons, hb, Bool.true_or]
theorem inst_is {ts : List Ty} {d : D} {Q : VK} (h : Fin Z W σ g H s (instW ts s d) (KV Q)) : ∃ t, tyOf s d = some t ∧ Fin Z W σ g H s (.ok (.bl (ts.any (instB t))) s) (KV Q) := by
  unfold instW at h
  cases e : tyOf s d with
  | none => simp only [e] at h; exact h.elim
  | some t =>
    simp only [e] at h
    exact ⟨t, rfl, h⟩

/-! ### methods, x[i] = w -/
theorem seqIndex_is {n : Nat} {i : Int} {j : Nat} (h : ixN n i = some j) : seqIndex? i n = some j := (L2.ixN_seq (by rw [ixN_is]; exact h)).1
/-- append, extend, pop: the reading -/
def rMe (m : Me) (n : Nat) : V → List V → Hp → VK → Prop := match m, n with
  | .append, _ => L2.rAppend
  | .extend, _ => L2.rExtend
  | .pop, 0 => L2.rPop
  | .pop, _ => L2.rPopAt
theorem me_is {m : Me} {x : D} {v : V} {ws : List D} {vs : List V} {Q : VK} (r : RelS Z g H s) (hx : Rep g.φ H x v) (hv : Reps g.φ H ws vs) (h : Fin Z W σ g H s (meW m s x ws) (KV Q)) : rMe m ws.length v vs H Q := by
  unfold meW at h
  split at h
  · rename_i k
    cases e : s.lstMut k with
    | none => simp only [e] at h; exact h.elim
    | some xs =>
      simp only [e] at h
      obtain ⟨a, us, rfl, h1, h2, h3⟩ := r.lstMut e hx
      unfold meL at h
      split at h
      · rename_i w
        obtain ⟨hb, h⟩ := fin_guard h
        obtain ⟨y, rfl, hy⟩ := reps1 hv
        have hl : us.length < sizeLine := by
          rw [← h3.len, sizeLine_eq]
          exact blt_lt hb
        exact ⟨a, us, y, rfl, rfl, h2, hl, h _ _ (After.setL r h1 h2) (r.setL h1 h2 (h3.append (reps_cons hy reps_nil))) _ Rep.non⟩
      · rename_i l
        cases e2 : s.lstMut l with
        | none => simp only [e2] at h; exact h.elim
        | some ys =>
          simp only [e2] at h
          obtain ⟨hb, h⟩ := fin_guard h
          obtain ⟨y, rfl, hy⟩ := reps1 hv
          obtain ⟨b, zs, rfl, _, h4, h5⟩ := r.lstMut e2 hy
          have hl : us.length + zs.length ≤ sizeLine := by
            rw [← h3.len, ← h5.len]
            exact okLine_le hb
          exact ⟨a, b, us, zs, rfl, rfl, h2, h4, hl, h _ _ (After.setL r h1 h2) (r.setL h1 h2 (h3.append h5)) _ Rep.non⟩
      · cases e2 : xs[xs.length - 1]? with
        | none => simp only [e2] at h; exact h.elim
        | some w =>
          simp only [e2] at h
          obtain ⟨y, hy, hr⟩ := h3.get e2
          rw [hv.nil_of]
          refine ⟨a, us, y, rfl, rfl, h2, by rw [← h3.len]; exact hy, h _ _ (After.setL r h1 h2) (r.setL h1 h2 h3.dropLast) _ ?_⟩
          exact Rep.mono ⟨[], by simp⟩ (fun b ys e => fix_lst h2 b _ e trivial) _ _ hr
      · rename_i i
        cases e2 : ixN xs.length i with
        | none => simp only [e2] at h; exact h.elim
        | some j =>
          simp only [e2] at h
          cases e3 : xs[j]? with
          | none => simp only [e3] at h; exact h.elim
          | some w =>
            simp only [e3] at h
            obtain ⟨hb, h⟩ := fin_guard h
            unfold rngOk at hb
            simp only [Bool.and_eq_true, decide_eq_true_eq] at hb
            obtain ⟨y, rfl, hy⟩ := reps1 hv
            rw [rep_int hy]
            obtain ⟨z, hz, hr⟩ := h3.get e3
            refine ⟨a, us, i, j, z, rfl, rfl, h2, by omega, by omega, by rw [← h3.len]; exact seqIndex_is e2, hz, h _ _ (After.setL r h1 h2) (r.setL h1 h2 (h3.eraseIdx j)) _ ?_⟩
            exact Rep.mono ⟨[], by simp⟩ (fun b ys e => fix_lst h2 b _ e trivial) _ _ hr
      · exact h.elim
  · exact h.elim
theorem set_is {x i w : D} {v u z : V} {Q : Hp → Prop} {s' : S} (r : RelS Z g H s) (hx : Rep g.φ H x v) (hi : Rep g.φ H i u) (hw : Rep g.φ H w z) (h : setW s x i w = .ok () s') (hq : ∀ g' H', After [] g H s g' H' s' → RelS Z g' H' s' → Q H') : L2.rSetL v u z H Q := by
  unfold setW at h
  split at h
  · rename_i k j
    cases e : s.lstMut k with
    | none => simp only [e] at h; cases h
    | some xs =>
      simp only [e] at h
      cases e2 : ixN xs.length j with
      | none => simp only [e2] at h; cases h
      | some p =>
        simp only [e2] at h
        cases h
        obtain ⟨a, us, rfl, h1, h2, h3⟩ := r.lstMut e hx
        rw [rep_int hi]
        exact ⟨a, us, j, p, rfl, rfl, h2, by rw [ixN_is, ← h3.len]; exact e2, hq _ _ (After.setL r h1 h2) (r.setL h1 h2 (h3.set hw p))⟩
  · cases h
end
end Ev
/-! EvE: expressions: the readings, their parts. -/
namespace Ev
open PySem PySem.Spec PyProof.Rows
open L2 (V HO Hp Cx Inv PE PT PA PS PSs PG PI PW PO RelV Vals upd upd_same upd_ne SqL SqT TE TT TA TS TG TI TO WX XK VK Room Takes EP)

/-- what is asked of a body's context -/
structure Gd (Z : Zx) (d : Nat) (C : Ctx) (X : Cx) : Prop where
  P : X.prog = Z.P
  w : X.w = Z.w
  K : X.K = Z.K
  mg : X.mg = Z.mg
  base : X.base = Z.base
  T : C.T = Z.tx
  N : X.N = C.N
  nd : C.N.Nodup
  sc : X.env.scope = C.sc
  calm : X.calm = true
  room : Room d X.A
  cf : ∀ x c, X.env.cells.lookup x = some c → X.base.get? c = none ∧ c ∉ L2.frs X.stack
  lam : C.lams ≠ [] → ∃ c P, X.env.code = .ref c ∧ LamX.TabB X.base X.mg c P ∧ (P, X.env.qual ++ "<lambda>") ∈ Z.T ∧ ∀ p ∈ Z.T, p.1 = P → p.2 = X.env.qual ++ "<lambda>"
/-- the built-ins that the text may name -/
def buS : List Str := ["len", "tuple", "list", "int", "abs", "all", "sum", "isinstance", "divmod", "range", "zip", "enumerate", "bool", "str", "dict"]
/-- what is asked of the program -/
structure Zok (Z : Zx) : Prop where
  fn : ∀ x f, Z.tx.fns.findIdx? (fun p => p.1 == x) = some f → Z.mg x = some (.ref (Z.fa f)) ∧ PySem.W.keepIn Z.K (.ref (Z.fa f)) = true
  bl : ∀ x ∈ buS, (Z.tx.fns.any fun p => p.1 == x) = false → (Z.tx.cls.any fun p => p.1 == x) = false → Z.mg x = none

section
variable {Z : Zx} {cs : List Nat} {W : WX} {X : Cx} {σ : L2.St} {g g1 : Gh} {H H1 : Hp} {s s1 : S} {en : Env} {α β : Type}
/-! ### readings -/
def KVs (Q : List V → Hp → Prop) : List D → S → Gh → Hp → Prop := fun ws s' g' H' => ∀ vs, Reps g'.φ H' ws vs → Q vs H'
def tEv (Z : Zx) (cs : List Nat) (X : Cx) (W : WX) (f : Env → S → R D) : TE := fun σ H Q => ∃ g en s, RelS Z g H s ∧ RelE cs X g H σ en s ∧ Fin Z W σ g H s (f en s) (KV Q)
def tAv (Z : Zx) (cs : List Nat) (X : Cx) (W : WX) (f : Env → S → R (List D)) : TA := fun σ H Q => ∃ g en s, RelS Z g H s ∧ RelE cs X g H σ en s ∧ Fin Z W σ g H s (f en s) (KVs Q)
def tTv (Z : Zx) (cs : List Nat) (X : Cx) (W : WX) (f : Env → S → R Bool) : TT := fun σ H Q => ∃ g en s, RelS Z g H s ∧ RelE cs X g H σ en s ∧ Fin Z W σ g H s (f en s) (fun b s' g' H' => Q b H')
def tOv (Z : Zx) (cs : List Nat) (X : Cx) (W : WX) (f : Env → S → R (Option Int)) : TO := fun σ H Q => ∃ g en s, RelS Z g H s ∧ RelE cs X g H σ en s ∧ Fin Z W σ g H s (f en s) (fun o s' g' H' => Q o H')
theorem pe_imp {e : Expr} {t t' : TE} (h : PE X e t) (hi : ∀ σ H Q, t' σ H Q → t σ H Q) : PE X e t' := ⟨fun pins s σ H Q I hw => h.run pins s σ H Q I (hi _ _ _ hw)⟩
theorem pt_imp {e : Expr} {t t' : TT} (h : PT X e t) (hi : ∀ σ H Q, t' σ H Q → t σ H Q) : PT X e t' := ⟨fun pins s σ H Q I hw => h.run pins s σ H Q I (hi _ _ _ hw)⟩
theorem pw_imp {e : Expr} {t t' : TT} (h : PW X e t) (hi : ∀ σ H Q, t' σ H Q → t σ H Q) : PW X e t' := ⟨fun wh pins s σ H Q I hw => h.run wh pins s σ H Q I (hi _ _ _ hw)⟩
theorem pa_imp {e : List Expr} {t t' : TA} (h : PA X e t) (hi : ∀ σ H Q, t' σ H Q → t σ H Q) : PA X e t' := ⟨fun pos pins s σ H Q I hw => h.run pos pins s σ H Q I (hi _ _ _ hw)⟩
theorem po_imp {e : Option Expr} {t t' : TO} (h : PO X e t) (hi : ∀ σ H Q, t' σ H Q → t σ H Q) : PO X e t' := ⟨fun pins s σ H Q I hw => h.run pins s σ H Q I (hi _ _ _ hw)⟩
theorem pi_imp {tg e : Expr} {t t' : TI} (h : PI X tg e t) (hi : ∀ σ H Q, t' σ H Q → t σ H Q) : PI X tg e t' := ⟨fun pins s σ H Q I hw => h.run pins s σ H Q I (hi _ _ _ hw)⟩
theorem tEv_mono {f : Env → S → R D} {Q Q' : VK} (h : tEv Z cs X W f σ H Q) (hq : ∀ v H', Q v H' → Q' v H') : tEv Z cs X W f σ H Q' := by
  obtain ⟨g, en, s, r, e, h⟩ := h
  exact ⟨g, en, s, r, e, h.mono fun a s' g' H' k v hv => hq v H' (k v hv)⟩
/-- a part, then the rest -/
theorem tEv_seq {f : Env → S → R D} {k : D → S → R β} {K : β → S → Gh → Hp → Prop} {Q : VK} (r : RelS Z g H s) (e : RelE cs X g H σ en s) (h : Fin Z W σ g H s ((f en s).bind k) K)
    (hq : ∀ v H1 x s1 g1, RelS Z g1 H1 s1 → RelE cs X g1 H1 σ en s1 → After [] g H s g1 H1 s1 → Rep g1.φ H1 x v → Fin Z W σ g1 H1 s1 (k x s1) K → Q v H1) : tEv Z cs X W f σ H Q :=
  ⟨g, en, s, r, e, (Fin.bind h).mono fun x s1 g1 H1 ⟨a, r1, h1⟩ v hv => hq v H1 x s1 g1 r1 (e.after r.m a) a hv h1⟩
theorem tAv_seq {f : Env → S → R (List D)} {k : List D → S → R β} {K : β → S → Gh → Hp → Prop} {Q : List V → Hp → Prop} (r : RelS Z g H s) (e : RelE cs X g H σ en s) (h : Fin Z W σ g H s ((f en s).bind k) K)
    (hq : ∀ vs H1 xs s1 g1, RelS Z g1 H1 s1 → RelE cs X g1 H1 σ en s1 → After [] g H s g1 H1 s1 → Reps g1.φ H1 xs vs → Fin Z W σ g1 H1 s1 (k xs s1) K → Q vs H1) : tAv Z cs X W f σ H Q :=
  ⟨g, en, s, r, e, (Fin.bind h).mono fun x s1 g1 H1 ⟨a, r1, h1⟩ v hv => hq v H1 x s1 g1 r1 (e.after r.m a) a hv h1⟩
theorem tAv_seqL {f : Env → S → R (List D)} {k : List D → S → R β} {K : β → S → Gh → Hp → Prop} {Q : List V → Hp → Prop} (r : RelS Z g H s) (e : RelE cs X g H σ en s) (h : Fin Z W σ g H s ((f en s).bind k) K)
    (hq : ∀ vs H1 xs s1 g1, f en s = .ok xs s1 → RelS Z g1 H1 s1 → RelE cs X g1 H1 σ en s1 → After [] g H s g1 H1 s1 → Reps g1.φ H1 xs vs → Fin Z W σ g1 H1 s1 (k xs s1) K → Q vs H1) : tAv Z cs X W f σ H Q := by
  refine ⟨g, en, s, r, e, ?_⟩
  cases hr : f en s with
  | bad => rw [hr] at h; exact h
  | ex c ws s' => rw [hr] at h; exact h
  | ok xs s1 =>
    rw [hr] at h
    exact fun g' H' a r' v hv => hq v H' xs s1 g' hr r' (e.after r.m a) a hv (Fin.rebase (r := k xs s1) a h)
theorem tTv_seq {f : Env → S → R Bool} {k : Bool → S → R β} {K : β → S → Gh → Hp → Prop} {Q : Bool → Hp → Prop} (r : RelS Z g H s) (e : RelE cs X g H σ en s) (h : Fin Z W σ g H s ((f en s).bind k) K)
    (hq : ∀ b H1 s1 g1, RelS Z g1 H1 s1 → RelE cs X g1 H1 σ en s1 → After [] g H s g1 H1 s1 → Fin Z W σ g1 H1 s1 (k b s1) K → Q b H1) : tTv Z cs X W f σ H Q :=
  ⟨g, en, s, r, e, (Fin.bind h).mono fun x s1 g1 H1 ⟨a, r1, h1⟩ => hq x H1 s1 g1 r1 (e.after r.m a) a h1⟩
theorem tOv_seq {f : Env → S → R (Option Int)} {k : Option Int → S → R β} {K : β → S → Gh → Hp → Prop} {Q : Option Int → Hp → Prop} (r : RelS Z g H s) (e : RelE cs X g H σ en s) (h : Fin Z W σ g H s ((f en s).bind k) K)
    (hq : ∀ b H1 s1 g1, RelS Z g1 H1 s1 → RelE cs X g1 H1 σ en s1 → After [] g H s g1 H1 s1 → Fin Z W σ g1 H1 s1 (k b s1) K → Q b H1) : tOv Z cs X W f σ H Q :=
  ⟨g, en, s, r, e, (Fin.bind h).mono fun x s1 g1 H1 ⟨a, r1, h1⟩ => hq x H1 s1 g1 r1 (e.after r.m a) a h1⟩
/-- a value told -/
theorem tEv_ok {f : Env → S → R D} {Q : VK} (r : RelS Z g H s) (e : RelE cs X g H σ en s) (h : Fin Z W σ g H s (f en s) (KV Q)) : tEv Z cs X W f σ H Q := ⟨g, en, s, r, e, h⟩
/-- a truth test of a part, then the rest -/
theorem tru_seq {f : Env → S → R D} {k : D → Bool → S → R β} {K : β → S → Gh → Hp → Prop} {Q : VK} (r : RelS Z g H s) (e : RelE cs X g H σ en s) (h : Fin Z W σ g H s ((f en s).bind fun x s => (truthR s x).bind (k x)) K)
    (hq : ∀ v H1 x b s1 g1, RelS Z g1 H1 s1 → RelE cs X g1 H1 σ en s1 → After [] g H s g1 H1 s1 → Rep g1.φ H1 x v → L2.TruV X.K v H1 b → truth s1 x = some b → Fin Z W σ g1 H1 s1 (k x b s1) K → Q v H1) : tEv Z cs X W f σ H Q :=
  tEv_seq r e h fun v H1 x s1 g1 r1 e1 a1 hx h1 => by
    cases ht : truth s1 x with
    | none =>
      unfold truthR at h1
      simp only [ht] at h1
      exact h1.elim
    | some b =>
      unfold truthR at h1
      simp only [ht] at h1
      exact hq v H1 x b s1 g1 r1 e1 a1 hx (truth_is r1 ht hx) ht h1

/-! ### names -/
theorem findIdx_get {N : List Str} {x : Str} {i : Nat} (h : N.findIdx? (· == x) = some i) : N[i]? = some x := by
  obtain ⟨h1, h2, _⟩ := List.findIdx?_eq_some_iff_getElem.mp h
  rw [List.getElem?_eq_getElem h1]
  exact congrArg some (by simpa using h2)
theorem vis_of {sc : Scope} {x : Str} (h : vis (sc.names.lookup x) = true) : L2.Vis sc x := by
  unfold vis at h
  simp only [Bool.or_eq_true, beq_iff_eq] at h
  rcases h with (h | h) | h
  · exact .inl h
  · exact .inr (.inl h)
  · exact .inr (.inr h)
theorem okNm_of {x : Str} (h : okNm x = true) : (x == ("__debug__" : Str)) = false ∧ (x == ("__classdict__" : Str)) = false := by
  unfold okNm at h
  simpa only [Bool.and_eq_true, Bool.not_eq_true'] using h
variable {d : Nat} {C : Ctx}
theorem slot_of (G : Gd Z d C X) {x : Str} {i : Nat} (h : C.slot x = some i) : X.N[i]? = some x ∧ L2.Vis X.env.scope x ∧ (x == ("__debug__" : Str)) = false ∧ (x == ("__classdict__" : Str)) = false := by
  unfold Ctx.slot at h
  cases hb : (vis (C.sc.names.lookup x) && okNm x) with
  | false => rw [hb] at h; cases h
  | true =>
    rw [hb] at h
    simp only [Bool.and_eq_true] at hb
    refine ⟨by rw [G.N]; exact findIdx_get h, by rw [G.sc]; exact vis_of hb.1, okNm_of hb.2⟩
theorem gl_of (G : Gd Z d C X) {x : Str} (h : isGl C x = true) : L2.Gl X x ∧ (x == ("__debug__" : Str)) = false := by
  unfold isGl at h
  simp only [Bool.and_eq_true, beq_iff_eq] at h
  refine ⟨?_, (okNm_of h.2).1⟩
  show X.env.scope.names.lookup x = _
  rw [G.sc]; exact h.1
theorem bu_of (zo : Zok Z) (G : Gd Z d C X) {x : Str} (h : isBu C x = true) (hx : x ∈ buS) : L2.Gl X x ∧ X.mg x = none := by
  unfold isBu at h
  simp only [Bool.and_eq_true, Bool.not_eq_true'] at h
  refine ⟨(gl_of G h.1.1).1, ?_⟩
  rw [G.mg]
  exact zo.bl x hx (by rw [← G.T]; exact h.1.2) (by rw [← G.T]; exact h.2)
theorem units_of (G : Gd Z d C X) : X.A.units + 64 < cLine := G.room.units

/-! ### walked things -/
/-- J walks as r does -/
def Walks (Z : Zx) (K : PySem.W.Frag) (g0 : Gh) (H0 : Hp) (r : Ri) (J : L2.It) : Prop := ∀ (g : Gh) (H : Hp) (s : S) (i : Nat), (∃ l, g.φ = g0.φ ++ l) → (∀ a u, H0 a = some u → Fix u → H a = some u) → RelS Z g H s →
  (∀ y, r.next s i = some (some y) → J.go i H ∧ ∀ x H', J.yld i H x H' → (∀ b u, H b = some u → H' b = some u) ∧ Rep g.φ H' y x) ∧ (r.next s i = some none → J.stop i H)
def tIv (Z : Zx) (cs : List Nat) (X : Cx) (W : WX) (f : Env → S → R Ri) : TI := fun σ H R => ∃ g en s, RelS Z g H s ∧ RelE cs X g H σ en s ∧ Fin Z W σ g H s (f en s) (fun r s' g' H' => ∀ J, Walks Z X.K g' H' r J → R J H')
theorem rd_uniq {a : Addr} {xs ys : List V} {K : PySem.W.Frag} (h : L2.Rd H a (.lst xs)) (h' : L2.Rd H a (.lst ys)) : xs = ys := by
  rcases h with h | ⟨o, h⟩ <;> rcases h' with h' | ⟨o', h'⟩ <;> rw [h] at h' <;> cases h' <;> rfl
/-- a list or a tuple, as it is walked -/
theorem pi_seq {tg l : Expr} {tl : TE} (hl : PE X l tl) : PI X tg l (fun σ H R => tl σ H fun x H1 => ∃ a, x = .ref a ∧ (((∃ xs, SqL X.K H1 a xs) ∧ R (L2.Itl X.K a) H1) ∨ ((∃ xs, SqT X.K H1 a xs) ∧ R (L2.Itt X.K a) H1))) := by
  refine ⟨fun pins s σ H R I h => ?_⟩
  refine L2.thn (hl.run pins s σ H _ I h) fun v s1 ⟨x, H1, I1, r1, q1⟩ => ?_
  obtain ⟨a, e, q1⟩ := q1
  subst e
  cases r1
  rcases q1 with ⟨⟨xs, hq⟩, q⟩ | ⟨⟨xs, hq⟩, q⟩
  · obtain ⟨its, rv, p, hz⟩ := I1.list hq
    refine wpAny_pyIter_list p.isList ?_
    refine ⟨s1.heap.objs.size, [s1.heap.objs.size], _, _, H1, rfl, I1.kept (t' := s1.toks) fun b o e => Heap.get?_push_of_some _ e, L2.turn_list a _, ⟨_, Heap.get?_push_size _ rfl, rfl, rfl⟩, fun b hb => ?_, q⟩
    have e : b = s1.heap.objs.size := by simpa using hb
    subst e
    exact I1.fpOk (Nat.le_refl _) (I1.hok.fresh (Nat.le_refl _))
  · obtain ⟨its, rv, p, hz⟩ := I1.tuple hq
    refine wpAny_pyIter_tuple (show s1.heap.IsTuple a its.toArray from p) ?_
    refine ⟨s1.heap.objs.size, [s1.heap.objs.size], _, _, H1, rfl, I1.kept (t' := s1.toks) fun b o e => Heap.get?_push_of_some _ e, L2.turn_tuple a _, ⟨_, Heap.get?_push_size _ rfl, rfl, rfl⟩, fun b hb => ?_, q⟩
    have e : b = s1.heap.objs.size := by simpa using hb
    subst e
    exact I1.fpOk (Nat.le_refl _) (I1.hok.fresh (Nat.le_refl _))
end
end Ev
/-! EvE2: walked things. -/
namespace Ev
open PySem PySem.Spec PyProof.Rows
open L2 (V HO Hp Cx Inv PE PT PA PS PSs PG PI PW PO RelV Vals upd upd_same upd_ne SqL SqT TE TT TA TS TG TI TO WX XK VK Room Takes EP)
section
variable {Z : Zx} {W : WX} {X : Cx} {σ : L2.St} {g g1 : Gh} {H H1 : Hp} {s s1 : S} {en : Env} {α β : Type} {K : PySem.W.Frag}
theorem next_map {o : Option (List D)} {i : Nat} {f : D → D} {r : Option D} (h : o.map (fun xs => (xs[i]?).map f) = some r) : ∃ xs, o = some xs ∧ (xs[i]?).map f = r := by
  cases o with
  | none => cases h
  | some xs => exact ⟨xs, rfl, Option.some.inj h⟩
theorem box_at (r : RelS Z g1 H1 s1) {g0 : Gh} (hφ : ∃ l, g1.φ = g0.φ ++ l) {k : Nat} {a : Addr} (hk : g0.φ[k]? = some a) {xs : List D} (h : s1.lstAt k = some xs) : ∃ vs, SqL K H1 a vs ∧ Reps g1.φ H1 xs vs := by
  obtain ⟨b, vs, h1, h2, h3⟩ := r.lstAt h (Rep.ref (pre_get hφ hk))
  cases h1
  exact ⟨vs, .inl h2, h3⟩
theorem val_at {g0 : Gh} {H0 : Hp} (hφ : ∃ l, g1.φ = g0.φ ++ l) (hf : ∀ a u, H0 a = some u → Fix u → H1 a = some u) {a : Addr} {xs : List D} {vs : List V} (h0 : H0 a = some (.tup vs)) (hr : Reps g0.φ H0 xs vs) : SqT K H1 a vs ∧ Reps g1.φ H1 xs vs :=
  ⟨.inl (.inl (hf _ _ h0 trivial)), Reps.mono hφ (fun b ys e => hf b _ e trivial) _ _ hr⟩
theorem len_stop {xs : List D} {vs : List V} {i : Nat} (h : Reps g1.φ H1 xs vs) (e : xs[i]? = none) : vs.length ≤ i := List.getElem?_eq_none_iff.mp (h.none_of e)
theorem walks_box {g0 : Gh} {H0 : Hp} {k : Nat} {a : Addr} (hk : g0.φ[k]? = some a) : Walks Z K g0 H0 (.seq (.box k)) (L2.Itl K a) := by
  intro g1 H1 s1 i hφ hf r
  refine ⟨fun y hy => ?_, fun hy => ?_⟩
  · simp only [Ri.next, Sq.items] at hy
    cases e : s1.lstAt k with
    | none => rw [e] at hy; cases hy
    | some xs =>
      rw [e] at hy
      have hy : xs[i]? = some y := Option.some.inj hy
      obtain ⟨vs, h1, h2⟩ := box_at (K := K) r hφ hk e
      obtain ⟨v, h3, h4⟩ := h2.get hy
      refine ⟨⟨vs, v, h1, h3⟩, fun x H' ⟨e1, e2⟩ => ?_⟩
      subst e1
      have e3 := e2 vs h1
      rw [h3] at e3
      cases e3
      exact ⟨fun _ _ q => q, h4⟩
  · simp only [Ri.next, Sq.items] at hy
    cases e : s1.lstAt k with
    | none => rw [e] at hy; cases hy
    | some xs =>
      rw [e] at hy
      have hy : xs[i]? = none := Option.some.inj hy
      obtain ⟨vs, h1, h2⟩ := box_at (K := K) r hφ hk e
      exact ⟨vs, h1, len_stop h2 hy⟩
theorem walks_val {g0 : Gh} {H0 : Hp} {a : Addr} {xs : List D} {vs : List V} (h0 : H0 a = some (.tup vs)) (hr : Reps g0.φ H0 xs vs) : Walks Z K g0 H0 (.seq (.val xs)) (L2.Itt K a) := by
  intro g1 H1 s1 i hφ hf r
  obtain ⟨h1, h2⟩ := val_at (K := K) hφ hf h0 hr
  refine ⟨fun y hy => ?_, fun hy => ?_⟩
  · have hy : xs[i]? = some y := Option.some.inj hy
    obtain ⟨v, h3, h4⟩ := h2.get hy
    refine ⟨⟨vs, v, h1, h3⟩, fun x H' ⟨e1, e2⟩ => ?_⟩
    subst e1
    have e3 := e2 vs h1
    rw [h3] at e3
    cases e3
    exact ⟨fun _ _ q => q, h4⟩
  · have hy : xs[i]? = none := Option.some.inj hy
    exact ⟨vs, h1, len_stop h2 hy⟩
theorem walks_rng {g0 : Gh} {H0 : Hp} {lo : Int} {n : Nat} : Walks Z K g0 H0 (.rng lo n) (L2.Itr lo n) := by
  intro g1 H1 s1 i hφ hf r
  have key : Nat.blt i n = decide (i < n) := by
    unfold Nat.blt
    by_cases h : i < n
    · rw [decide_eq_true h]; exact Nat.ble_eq_true_of_le h
    · rw [decide_eq_false h]
      cases e : Nat.ble (i + 1) n with
      | false => rfl
      | true => exact absurd (Nat.le_of_ble_eq_true e) h
  refine ⟨fun y hy => ?_, fun hy => ?_⟩
  · simp only [Ri.next, key] at hy
    by_cases h : i < n
    · rw [decide_eq_true h] at hy
      cases hy
      refine ⟨h, fun x H' ⟨e1, e2⟩ => ?_⟩
      subst e1 e2
      exact ⟨fun _ _ q => q, Rep.int _⟩
    · rw [decide_eq_false h] at hy
      cases hy
  · simp only [Ri.next, key] at hy
    by_cases h : i < n
    · rw [decide_eq_true h] at hy
      cases hy
    · exact Nat.le_of_not_lt h
theorem rep_pair {x y : D} {v u : V} {T : Addr} (hT : H T = none) (hx : Rep g.φ H x v) (hy : Rep g.φ H y u) : (∀ b o, H b = some o → upd H T (.tup [v, u]) b = some o) ∧ Rep g.φ (upd H T (.tup [v, u])) (.tup [x, y]) (.ref T) := by
  refine ⟨ext_new hT, Rep.tup upd_same (Reps.mono (H := H) ⟨[], by simp⟩ (fun b ys e => ext_new hT b _ e) _ _ (reps_cons hx (reps_cons hy reps_nil)))⟩
theorem zip_next {p q : Sq} {i : Nat} {r : Option D} (h : (Ri.zip p q).next s i = some r) : ∃ xs ys, p.items s = some xs ∧ q.items s = some ys ∧ r = (match xs[i]?, ys[i]? with | some x, some y => some (.tup [x, y]) | _, _ => none) := by
  simp only [Ri.next] at h
  cases e1 : p.items s with
  | none => simp only [e1] at h; cases h
  | some xs =>
    cases e2 : q.items s with
    | none => simp only [e1, e2] at h; cases h
    | some ys =>
      simp only [e1, e2] at h
      exact ⟨xs, ys, rfl, rfl, (Option.some.inj h).symm⟩
theorem walks_zip {g0 : Gh} {H0 : Hp} {p q : Sq} {a b : Addr} {J : L2.It} (F : Hp → Addr → List V → Prop)
    (hp : ∀ (g : Gh) (H : Hp) (s : S) xs, (∃ l, g.φ = g0.φ ++ l) → (∀ a u, H0 a = some u → Fix u → H a = some u) → RelS Z g H s → p.items s = some xs → ∃ vs, F H a vs ∧ Reps g.φ H xs vs)
    (hq : ∀ (g : Gh) (H : Hp) (s : S) xs, (∃ l, g.φ = g0.φ ++ l) → (∀ a u, H0 a = some u → Fix u → H a = some u) → RelS Z g H s → q.items s = some xs → ∃ vs, F H b vs ∧ Reps g.φ H xs vs)
    (hgo : ∀ i H xs ys x y, F H a xs → F H b ys → xs[i]? = some x → ys[i]? = some y → J.go i H)
    (hyl : ∀ i H v H' xs ys x y, F H a xs → F H b ys → xs[i]? = some x → ys[i]? = some y → J.yld i H v H' → ∃ T, v = .ref T ∧ H T = none ∧ H' = upd H T (.tup [x, y]))
    (hst : ∀ i H xs ys, F H a xs → F H b ys → (xs.length ≤ i ∨ ys.length ≤ i) → J.stop i H) : Walks Z K g0 H0 (.zip p q) J := by
  intro g1 H1 s1 i hφ hf r
  refine ⟨fun y hy => ?_, fun hy => ?_⟩
  · obtain ⟨xs, ys, e1, e2, e3⟩ := zip_next hy
    obtain ⟨vs, h1, h2⟩ := hp g1 H1 s1 xs hφ hf r e1
    obtain ⟨us, h3, h4⟩ := hq g1 H1 s1 ys hφ hf r e2
    cases e4 : xs[i]? with
    | none => simp only [e4] at e3; cases e3
    | some x =>
      cases e5 : ys[i]? with
      | none => simp only [e4, e5] at e3; cases e3
      | some z =>
        simp only [e4, e5] at e3
        cases e3
        obtain ⟨v, h5, h6⟩ := h2.get e4
        obtain ⟨u, h7, h8⟩ := h4.get e5
        refine ⟨hgo i H1 vs us v u h1 h3 h5 h7, fun w H' hw => ?_⟩
        obtain ⟨T, e6, e7, e8⟩ := hyl i H1 w H' vs us v u h1 h3 h5 h7 hw
        subst e6 e8
        exact rep_pair e7 h6 h8
  · obtain ⟨xs, ys, e1, e2, e3⟩ := zip_next hy
    obtain ⟨vs, h1, h2⟩ := hp g1 H1 s1 xs hφ hf r e1
    obtain ⟨us, h3, h4⟩ := hq g1 H1 s1 ys hφ hf r e2
    refine hst i H1 vs us h1 h3 ?_
    cases e4 : xs[i]? with
    | none => exact .inl (len_stop h2 e4)
    | some x =>
      cases e5 : ys[i]? with
      | none => exact .inr (len_stop h4 e5)
      | some z => simp only [e4, e5] at e3; cases e3
theorem walks_zipL {g0 : Gh} {H0 : Hp} {k l : Nat} {a b : Addr} (hk : g0.φ[k]? = some a) (hl : g0.φ[l]? = some b) : Walks Z K g0 H0 (.zip (.box k) (.box l)) (L2.Itz K a b) :=
  walks_zip (fun H a vs => SqL K H a vs) (fun g H s xs hφ _ r e => box_at r hφ hk e) (fun g H s xs hφ _ r e => box_at r hφ hl e) (fun i H xs ys x y h1 h2 h3 h4 => ⟨xs, ys, x, y, h1, h2, h3, h4⟩)
    (fun i H v H' xs ys x y h1 h2 h3 h4 ⟨T, x', y', e1, e2, e3, e4, e5⟩ => by
      have z1 := e4 xs h1
      have z2 := e5 ys h2
      rw [h3] at z1
      rw [h4] at z2
      cases z1
      cases z2
      exact ⟨T, e1, e2, e3⟩) fun i H xs ys h1 h2 h3 => ⟨xs, ys, h1, h2, h3⟩
theorem walks_zipT {g0 : Gh} {H0 : Hp} {xs ys : List D} {vs us : List V} {a b : Addr} (h1 : H0 a = some (.tup vs)) (h2 : Reps g0.φ H0 xs vs) (h3 : H0 b = some (.tup us)) (h4 : Reps g0.φ H0 ys us) : Walks Z K g0 H0 (.zip (.val xs) (.val ys)) (RZ.ItzT K a b) :=
  walks_zip (fun H a vs => SqT K H a vs) (fun g H s zs hφ hf r e => by cases e; exact ⟨vs, val_at hφ hf h1 h2⟩) (fun g H s zs hφ hf r e => by cases e; exact ⟨us, val_at hφ hf h3 h4⟩) (fun i H xs ys x y h1 h2 h3 h4 => ⟨xs, ys, x, y, h1, h2, h3, h4⟩)
    (fun i H v H' xs ys x y h1 h2 h3 h4 ⟨T, x', y', e1, e2, e3, e4, e5⟩ => by
      have z1 := e4 xs h1
      have z2 := e5 ys h2
      rw [h3] at z1
      rw [h4] at z2
      cases z1
      cases z2
      exact ⟨T, e1, e2, e3⟩) fun i H xs ys h1 h2 h3 => ⟨xs, ys, h1, h2, h3⟩
theorem walks_en {g0 : Gh} {H0 : Hp} {k : Nat} {a : Addr} (hk : g0.φ[k]? = some a) : Walks Z K g0 H0 (.en (.box k)) (L2.Ite K a) := by
  intro g1 H1 s1 i hφ hf r
  refine ⟨fun y hy => ?_, fun hy => ?_⟩
  · obtain ⟨xs, e, hy⟩ := next_map (o := s1.lstAt k) hy
    obtain ⟨vs, h1, h2⟩ := box_at (K := K) r hφ hk e
    cases e2 : xs[i]? with
    | none => rw [e2] at hy; cases hy
    | some d =>
      rw [e2] at hy
      cases hy
      obtain ⟨v, h3, h4⟩ := h2.get e2
      refine ⟨⟨vs, v, h1, h3⟩, fun x H' ⟨T, x', e3, e4, e5, e6⟩ => ?_⟩
      have z := e6 vs h1
      rw [h3] at z
      cases z
      subst e3 e5
      exact rep_pair e4 (Rep.int _) h4
  · obtain ⟨xs, e, hy⟩ := next_map (o := s1.lstAt k) hy
    obtain ⟨vs, h1, h2⟩ := box_at (K := K) r hφ hk e
    refine ⟨vs, h1, len_stop h2 ?_⟩
    cases e2 : xs[i]? with
    | none => rfl
    | some d => rw [e2] at hy; cases hy
/-- a list or a tuple that is walked -/
theorem sqOf_is {d : D} {v : V} {p : Bool × Sq} (r : RelS Z g H s) (h : sqOf s d = some p) (hv : Rep g.φ H d v) :
    ∃ a vs, v = .ref a ∧ ((p.1 = false ∧ SqL K H a vs ∧ ∃ k, p.2 = .box k ∧ g.φ[k]? = some a) ∨ (p.1 = true ∧ H a = some (.tup vs) ∧ ∃ xs, p.2 = .val xs ∧ Reps g.φ H xs vs)) := by
  cases d with
  | tup xs =>
    cases h
    obtain ⟨a, vs, rfl, h2, h3⟩ := rep_tup hv
    exact ⟨a, vs, rfl, .inr ⟨rfl, h2, xs, rfl, h3⟩⟩
  | ref k =>
    simp only [sqOf] at h
    cases e : s.lstAt k with
    | none => rw [e] at h; cases h
    | some xs =>
      rw [e] at h
      cases h
      obtain ⟨a, h1, rfl⟩ := rep_ref hv
      obtain ⟨b, vs, h2, h3, h4⟩ := r.lstAt e (Rep.ref h1)
      cases h2
      exact ⟨a, vs, rfl, .inl ⟨rfl, .inl h3, k, rfl, h1⟩⟩
  | _ => cases h
end
end Ev
/-! EvF: expressions: what the translator gives is read rightly. -/
namespace Ev
open PySem PySem.Spec PyProof.Rows
open L2 (V HO Hp Cx Inv PE PT PA PS PSs PG PI PW PO RelV Vals upd upd_same upd_ne SqL SqT TE TT TA TS TG TI TO WX XK VK Room Takes EP)

/-- a def called: what the evaluator tells of it is so -/
def CallP (Z : Zx) (d : Nat) (cF : Nat → List D → S → R D) : Prop := ∀ (C : Ctx) (X : Cx) (W : WX), Gd Z d C X → Takes X W → ∀ (f : Nat) (q : Str × List Str), Z.tx.fns[f]? = some q → ∀ (us0 : List Value) (ks : List Str) (ws0 : List Value) (us : List Value),
  ((ks = [] ∧ ws0 = [] ∧ us = us0) ∨ ((f, us0.length, ks) ∈ Z.tx.kcs ∧ ws0.length = ks.length ∧ ∃ pm, permOf q.2 us0.length ks = some pm ∧ mapO (fun i => (us0 ++ ws0)[i]?) pm = some us)) →
  ∀ (pins : List (Addr × Obj)) (s0 : Shared) (σ : L2.St) (H : Hp) (vs : List V) (Q : VK) (g : Gh) (en : Env) (s : S) (ws : List D), Inv X pins σ H s0 → Vals vs us → RelS Z g H s → RelE C.cs X g H σ en s → Reps g.φ H ws vs →
    Fin Z W σ g H s (cF f ws s) (KV Q) → wpAny (model X.prog X.w) X.A (call (.ref (Z.fa f)) us0 (ks.zip ws0)) (EP X pins σ Q) X.xe s0
/-- a lambda called -/
def ValP (Z : Zx) (d : Nat) (cV : D → List D → S → R D) : Prop := ∀ (C : Ctx) (X : Cx) (W : WX), Gd Z d C X → Takes X W → ∀ (pins : List (Addr × Obj)) (s0 : Shared) (σ : L2.St) (H : Hp) (w : D) (v : V) (u : Value) (us : List Value) (vs : List V) (Q : VK) (g : Gh) (en : Env) (s : S) (ws : List D),
  Inv X pins σ H s0 → RelV v u → Rep g.φ H w v → Vals vs us → RelS Z g H s → RelE C.cs X g H σ en s → Reps g.φ H ws vs → Fin Z W σ g H s (cV w ws s) (KV Q) → wpAny (model X.prog X.w) X.A (call u us []) (EP X pins σ Q) X.xe s0

/-- what holds of the translator's functions with the fuel n -/
structure IHE (Z : Zx) (d : Nat) (cF : Nat → List D → S → R D) (cV : D → List D → S → R D) (n : Nat) : Prop where
  pe : ∀ C X W, Gd Z d C X → Takes X W → ∀ e c, trE n C e = some c → PE X e (tEv Z C.cs X W (evE cF cV c)) ∧ PT X e (tTv Z C.cs X W fun en s => (evE cF cV c en s).bind fun x s => truthR s x)
  pa : ∀ C X W, Gd Z d C X → Takes X W → ∀ es cs, trL n C es = some cs → PA X es (tAv Z C.cs X W (evEs cF cV cs))
  pk : ∀ C X W, Gd Z d C X → Takes X W → ∀ (kws : List Keyword) cs, trL n C (kws.map (·.value)) = some cs → L2.PK X kws (tAv Z C.cs X W (evEs cF cV cs))
  ts : ∀ C X W, Gd Z d C X → Takes X W → ∀ ifs cs, ifs.length ≤ 1 → trL n C ifs = some cs → L2.PTs X ifs (tTv Z C.cs X W (evT cF cV cs))
  an : ∀ C X W, Gd Z d C X → Takes X W → ∀ es c pos, trAnd n C es = some c → PE X (.BoolOp .And es pos) (tEv Z C.cs X W (evE cF cV c)) ∧ PW X (.BoolOp .And es pos) (tTv Z C.cs X W fun en s => (evE cF cV c en s).bind fun x s => truthR s x)
  or : ∀ C X W, Gd Z d C X → Takes X W → ∀ es c pos, trOr n C es = some c → PE X (.BoolOp .Or es pos) (tEv Z C.cs X W (evE cF cV c)) ∧ PW X (.BoolOp .Or es pos) (tTv Z C.cs X W fun en s => (evE cF cV c en s).bind fun x s => truthR s x)
  sb : ∀ C X W, Gd Z d C X → Takes X W → ∀ a i c pos, trSub n C a i = some c → PE X (.Subscript a i pos) (tEv Z C.cs X W (evE cF cV c))
  ca : ∀ C X W, Gd Z d C X → Takes X W → ∀ f es kws c pos, trCall n C f es kws pos = some c → PE X (.Call f es kws pos) (tEv Z C.cs X W (evE cF cV c))
  df : ∀ C X W, Gd Z d C X → Takes X W → ∀ x p f es kws c pos, isGl C x = true → C.T.fns.findIdx? (fun q => q.1 == x) = some f → trDef n C f es kws = some c → PE X (.Call (.Name x p) es kws pos) (tEv Z C.cs X W (evE cF cV c))
  bu : ∀ C X W, Gd Z d C X → Takes X W → ∀ x p es c pos, isBu C x = true → trBu n C x es = some c → PE X (.Call (.Name x p) es [] pos) (tEv Z C.cs X W (evE cF cV c))
  po : ∀ C X W, Gd Z d C X → Takes X W → ∀ o c, trO n C o = some c → PO X o (tOv Z C.cs X W (evO cF cV c))
  pi : ∀ C X W, Gd Z d C X → Takes X W → ∀ tg it c, trI n C (isTup tg) it = some c → PI X tg it (tIv Z C.cs X W (evI cF cV c))

section
variable {Z : Zx} {W : WX} {X : Cx} {σ : L2.St} {g g1 : Gh} {H H1 : Hp} {s s1 : S} {en : Env} {α β : Type} {K : PySem.W.Frag} {d n : Nat} {C : Ctx} {cF : Nat → List D → S → R D} {cV : D → List D → S → R D}
/-! ### the forms -/
theorem star_of {e : Expr} {c : E} (h : trE n C e = some c) (es : List Expr) (env : PySem.Env) : starEach (e :: es) env = (false, eval e env) :: starEach es env := by
  cases n with
  | zero => unfold trE at h; cases h
  | succ n => cases e <;> first | rfl | (unfold trE at h; cases h)
/-- no list of arguments has a star -/
theorem stars_of : ∀ {n : Nat} {es : List Expr} {cs : Es}, trL n C es = some cs → ∀ (env : PySem.Env) (pos : Pos), (backTo pos (starEach es env)).any (·.1) = false
  | 0, _, _, h, _, _ => by unfold trL at h; cases h
  | n + 1, [], _, _, _, _ => rfl
  | n + 1, e :: es, cs, h, env, pos => by
    unfold trL at h
    cases h1 : trE n C e with
    | none => simp only [h1] at h; cases h
    | some c =>
      cases h2 : trL n C es with
      | none => simp only [h1, h2] at h; cases h
      | some cs' =>
        rw [star_of h1 es env]
        show (false || (backTo pos (starEach es env)).any (·.1)) = false
        rw [stars_of h2 env pos] <;> rfl
theorem plainIx_of {e : Expr} {c : E} (h : trE n C e = some c) : L2.PlainIx e := fun o i => by
  cases n with
  | zero => unfold trE at h; cases h
  | succ n => cases e <;> first | rfl | (unfold trE at h; cases h)
/-- a test by its value's truth -/
theorem pt_plain {e : Expr} {f : Env → S → R D} (h : PE X e (tEv Z C.cs X W f)) (he : ∀ whole, isTrue e X.env whole = (do let v ← whole; standAt e.pos; holding [v] (truthy v))) : PT X e (tTv Z C.cs X W fun en s => (f en s).bind fun x s => truthR s x) :=
  pt_imp (L2.pt_truth h he) fun σ H Q ⟨g, en, s, r, e, h⟩ => tEv_seq r e h fun v H1 x s1 g1 r1 e1 a1 hx h1 => fin_truth r1 hx h1
theorem both {e : Expr} {f : Env → S → R D} (h : PE X e (tEv Z C.cs X W f)) (he : ∀ whole, isTrue e X.env whole = (do let v ← whole; standAt e.pos; holding [v] (truthy v))) :
    PE X e (tEv Z C.cs X W f) ∧ PT X e (tTv Z C.cs X W fun en s => (f en s).bind fun x s => truthR s x) := ⟨h, pt_plain h he⟩
theorem pe_const {e : Expr} {w : D} {v : V} (h : PE X e (L2.tC v)) (hv : ∀ g H, Rep g H w v) (f : Env → S → R D) (hf : ∀ en s, f en s = .ok w s) : PE X e (tEv Z C.cs X W f) :=
  pe_imp h fun σ H Q ⟨g, en, s, r, e, q⟩ => by
    rw [hf] at q
    exact fin_val r q (hv _ _)
theorem cmpW_bl {o : Co} {s s' : S} {x y w : D} (h : cmpW o s x y = .ok w s') : ∃ b, w = .bl b := by
  unfold cmpW at h
  split at h <;> (repeat' split at h) <;> first | (cases h; exact ⟨_, rfl⟩) | cases h
theorem cmp_test {o : Co} {x y : D} {v u : V} {Q : Bool → Hp → Prop} (r : RelS Z g H s) (hx : Rep g.φ H x v) (hy : Rep g.φ H y u) (h : Fin Z W σ g H s ((cmpW o s x y).bind fun x s => truthR s x) (fun b s' g' H' => Q b H')) :
    rCmp K o v u H (fun z H' => ∃ k, z = .bl k ∧ Q k H') := by
  refine cmp_is K o Z W σ g H s x y v u _ r hx hy ?_
  cases e : cmpW o s x y with
  | bad => rw [e] at h; exact h
  | ex c ws s' => rw [e] at h; exact h
  | ok w s' =>
    obtain ⟨b, rfl⟩ := cmpW_bl e
    rw [e] at h
    have h : Fin Z W σ g H s (.ok b s') (fun b s' g' H' => Q b H') := h
    intro g' H' a r' v hv
    rw [rep_bl hv]
    exact ⟨b, rfl, h g' H' a r'⟩
theorem co_nomark {op : CmpOp} {o : Co} (h : trCo op = some o) (b : Expr) : behindInMarks op b = false := by
  refine L2.nomark b ?_ ?_ <;> (intro z; subst z; cases h)

/-! ### the steps -/
theorem st_pa (ih : IHE Z d cF cV n) (G : Gd Z d C X) (tk : Takes X W) {es : List Expr} {cs : Es} (h : trL (n + 1) C es = some cs) : PA X es (tAv Z C.cs X W (evEs cF cV cs)) := by
  unfold trL at h
  cases es with
  | nil =>
    cases h
    exact pa_imp L2.pa_nil fun σ H Q ⟨g, en, s, r, e, q⟩ => fin_ok (K := KVs Q) r q [] reps_nil
  | cons e es =>
    cases h1 : trE n C e with
    | none => simp only [h1] at h; cases h
    | some c =>
      cases h2 : trL n C es with
      | none => simp only [h1, h2] at h; cases h
      | some cs' =>
        simp only [h1, h2] at h
        cases h
        refine pa_imp (L2.pa_cons (ih.pe C X W G tk e c h1).1 (ih.pa C X W G tk es cs' h2) (star_of h1 es X.env)) fun σ H Q ⟨g, en, s, r, e, q⟩ => ?_
        refine tEv_seq r e q fun v H1 x s1 g1 r1 e1 a1 hx q1 => ?_
        refine tAv_seq r1 e1 q1 fun vs H2 xs s2 g2 r2 e2 a2 hxs q2 => ?_
        exact fin_ok (K := KVs Q) r2 q2 _ (reps_cons (a2.rep hx) hxs)
theorem st_ts (ih : IHE Z d cF cV n) (G : Gd Z d C X) (tk : Takes X W) {ifs : List Expr} {cs : Es} (hl : ifs.length ≤ 1) (h : trL (n + 1) C ifs = some cs) : L2.PTs X ifs (tTv Z C.cs X W (evT cF cV cs)) := by
  unfold trL at h
  cases ifs with
  | nil =>
    cases h
    exact ⟨fun pins s0 σ H Q I ⟨g, en, s, r, e, q⟩ => L2.pts_nil.run pins s0 σ H Q I (fin_ok (K := fun b s' g' H' => Q b H') r q)⟩
  | cons a as =>
    cases as with
    | cons _ _ => simp at hl
    | nil =>
      cases h1 : trE n C a with
      | none => simp only [h1] at h; cases h
      | some c =>
        cases h2 : trL n C [] with
        | none => simp only [h1, h2] at h; cases h
        | some c0 =>
          simp only [h1, h2] at h
          cases h
          have : c0 = .nil := by
            cases n with
            | zero => unfold trL at h2; cases h2
            | succ m => unfold trL at h2; cases h2; rfl
          subst this
          refine ⟨fun pins s0 σ H Q I ⟨g, en, s, r, e, q⟩ => (L2.pts_one (ih.pe C X W G tk a c h1).2).run pins s0 σ H Q I ⟨g, en, s, r, e, ?_⟩⟩
          have : evT cF cV (.cons c .nil) en s = (evE cF cV c en s).bind fun x s => truthR s x := by
            rw [evT]
            cases evE cF cV c en s with
            | ok x s1 =>
              simp only [R.bind_ok]
              unfold truthR
              cases truth s1 x with
              | none => rfl
              | some b => cases b <;> rfl
            | _ => rfl
          show Fin Z W σ g H s ((evE cF cV c en s).bind fun x s => truthR s x) _
          rw [← this]
          exact q
theorem st_and (ih : IHE Z d cF cV n) (G : Gd Z d C X) (tk : Takes X W) {es : List Expr} {c : E} {pos : Pos} (h : trAnd (n + 1) C es = some c) :
    PE X (.BoolOp .And es pos) (tEv Z C.cs X W (evE cF cV c)) ∧ PW X (.BoolOp .And es pos) (tTv Z C.cs X W fun en s => (evE cF cV c en s).bind fun x s => truthR s x) := by
  unfold trAnd at h
  split at h
  · rename_i a
    obtain ⟨h1, h2⟩ := ih.pe C X W G tk a c h
    exact ⟨L2.pe_one h1, L2.pw_and1 h2⟩
  · rename_i a b r
    cases h1 : trE n C a with
    | none => simp only [h1] at h; cases h
    | some ca =>
      cases h2 : trAnd n C (b :: r) with
      | none => simp only [h1, h2] at h; cases h
      | some cb =>
        simp only [h1, h2] at h
        cases h
        obtain ⟨a1, a2⟩ := ih.pe C X W G tk a ca h1
        obtain ⟨b1, b2⟩ := ih.an C X W G tk (b :: r) cb pos h2
        refine ⟨pe_imp (L2.pe_andT a1 b1) fun σ H Q ⟨g, en, s, r, e, q⟩ => ?_, pw_imp (L2.pw_and a2 b2) fun σ H Q ⟨g, en, s, r, e, q⟩ => ?_⟩
        · refine tru_seq (k := fun x k s => bif k then evE cF cV cb en s else .ok x s) r e q fun v H1 x k s1 g1 r1 e1 aft hx ht _ q1 => ⟨k, ht, ?_⟩
          cases k with
          | true => exact ⟨g1, en, s1, r1, e1, q1⟩
          | false => exact fin_val r1 q1 hx
        · have q : Fin Z W σ g H s (((evE cF cV ca en s).bind fun x s => truthR s x).bind fun k s => bif k then (evE cF cV cb en s).bind fun x s => truthR s x else .ok false s) (fun b s' g' H' => Q b H') := by
            have : ((evE cF cV (.and ca cb) en s).bind fun x s => truthR s x) = (((evE cF cV ca en s).bind fun x s => truthR s x).bind fun k s => bif k then (evE cF cV cb en s).bind fun x s => truthR s x else .ok false s) := by
              rw [evE]
              cases evE cF cV ca en s with
              | bad => rfl
              | ex c ws s' => rfl
              | ok x s' =>
                simp only [R.bind_ok]
                unfold truthR
                cases ht : truth s' x with
                | none => rfl
                | some k =>
                  cases k with
                  | true => rfl
                  | false => simp only [R.bind_ok, cond_false, ht]
            rw [← this]
            exact q
          refine tTv_seq r e q fun k H1 s1 g1 r1 e1 aft q1 => ?_
          cases k with
          | true => exact ⟨g1, en, s1, r1, e1, q1⟩
          | false => exact fin_ok (K := fun b s' g' H' => Q b H') r1 q1
  · cases h
theorem st_or (ih : IHE Z d cF cV n) (G : Gd Z d C X) (tk : Takes X W) {es : List Expr} {c : E} {pos : Pos} (h : trOr (n + 1) C es = some c) :
    PE X (.BoolOp .Or es pos) (tEv Z C.cs X W (evE cF cV c)) ∧ PW X (.BoolOp .Or es pos) (tTv Z C.cs X W fun en s => (evE cF cV c en s).bind fun x s => truthR s x) := by
  unfold trOr at h
  split at h
  · rename_i a
    obtain ⟨h1, h2⟩ := ih.pe C X W G tk a c h
    exact ⟨L2.pe_one h1, L2.pw_or1 h2⟩
  · rename_i a b r
    cases h1 : trE n C a with
    | none => simp only [h1] at h; cases h
    | some ca =>
      cases h2 : trOr n C (b :: r) with
      | none => simp only [h1, h2] at h; cases h
      | some cb =>
        simp only [h1, h2] at h
        cases h
        obtain ⟨a1, a2⟩ := ih.pe C X W G tk a ca h1
        obtain ⟨b1, b2⟩ := ih.or C X W G tk (b :: r) cb pos h2
        refine ⟨pe_imp (L2.pe_orT a1 b1) fun σ H Q ⟨g, en, s, r, e, q⟩ => ?_, pw_imp (L2.pw_or a2 b2) fun σ H Q ⟨g, en, s, r, e, q⟩ => ?_⟩
        · refine tru_seq (k := fun x k s => bif k then .ok x s else evE cF cV cb en s) r e q fun v H1 x k s1 g1 r1 e1 aft hx ht _ q1 => ⟨k, ht, ?_⟩
          cases k with
          | true => exact fin_val r1 q1 hx
          | false => exact ⟨g1, en, s1, r1, e1, q1⟩
        · have q : Fin Z W σ g H s (((evE cF cV ca en s).bind fun x s => truthR s x).bind fun k s => bif k then .ok true s else (evE cF cV cb en s).bind fun x s => truthR s x) (fun b s' g' H' => Q b H') := by
            have : ((evE cF cV (.or ca cb) en s).bind fun x s => truthR s x) = (((evE cF cV ca en s).bind fun x s => truthR s x).bind fun k s => bif k then .ok true s else (evE cF cV cb en s).bind fun x s => truthR s x) := by
              rw [evE]
              cases evE cF cV ca en s with
              | bad => rfl
              | ex c ws s' => rfl
              | ok x s' =>
                simp only [R.bind_ok]
                unfold truthR
                cases ht : truth s' x with
                | none => rfl
                | some k =>
                  cases k with
                  | true => simp only [R.bind_ok, cond_true, ht]
                  | false => rfl
            rw [← this]
            exact q
          refine tTv_seq r e q fun k H1 s1 g1 r1 e1 aft q1 => ?_
          cases k with
          | true => exact fin_ok (K := fun b s' g' H' => Q b H') r1 q1
          | false => exact ⟨g1, en, s1, r1, e1, q1⟩
  · cases h
theorem st_po (ih : IHE Z d cF cV n) (G : Gd Z d C X) (tk : Takes X W) {o : Option Expr} {c : Oe} (h : trO (n + 1) C o = some c) : PO X o (tOv Z C.cs X W (evO cF cV c)) := by
  unfold trO at h
  cases o with
  | none =>
    cases h
    exact po_imp L2.po_none fun σ H Q ⟨g, en, s, r, e, q⟩ => fin_ok (K := fun o s' g' H' => Q o H') r q
  | some a =>
    cases h1 : trE n C a with
    | none => simp only [h1] at h; cases h
    | some ca =>
      simp only [h1] at h
      cases h
      refine po_imp (L2.po_some (ih.pe C X W G tk a ca h1).1) fun σ H Q ⟨g, en, s, r, e, q⟩ => ?_
      refine tEv_seq r e q fun v H1 x s1 g1 r1 e1 a1 hx q1 => ?_
      unfold intR at q1
      split at q1
      · rw [rep_int hx]
        exact ⟨_, rfl, fin_ok (K := fun o s' g' H' => Q o H') r1 q1⟩
      · exact q1.elim
theorem st_sb (ih : IHE Z d cF cV n) (G : Gd Z d C X) (tk : Takes X W) {a i : Expr} {c : E} {pos : Pos} (h : trSub (n + 1) C a i = some c) : PE X (.Subscript a i pos) (tEv Z C.cs X W (evE cF cV c)) := by
  unfold trSub at h
  split at h
  · rename_i lo hi p
    cases h1 : trE n C a with
    | none => simp only [h1] at h; cases h
    | some ca =>
      cases h2 : trO n C lo with
      | none => simp only [h1, h2] at h; cases h
      | some cl =>
        cases h3 : trO n C hi with
        | none => simp only [h1, h2, h3] at h; cases h
        | some ch =>
          simp only [h1, h2, h3] at h
          cases h
          refine pe_imp (L2.pe_slice sl_op (ih.pe C X W G tk a ca h1).1 (ih.po C X W G tk lo cl h2) (ih.po C X W G tk hi ch h3)) fun σ H Q ⟨g, en, s, r, e, q⟩ => ?_
          refine tEv_seq r e q fun v H1 x s1 g1 r1 e1 a1 hx q1 => ?_
          refine tOv_seq r1 e1 q1 fun l H2 s2 g2 r2 e2 a2 q2 => ?_
          refine tOv_seq r2 e2 q2 fun l' H3 s3 g3 r3 e3 a3 q3 => ?_
          exact sl_is r3 (a3.rep (a2.rep hx)) q3
  · cases h1 : trE n C a with
    | none => simp only [h1] at h; cases h
    | some ca =>
      cases h2 : trE n C i with
      | none => simp only [h1, h2] at h; cases h
      | some ci =>
        simp only [h1, h2] at h
        cases h
        refine pe_imp (L2.pe_ix L2.ix_seq (ih.pe C X W G tk a ca h1).1 (ih.pe C X W G tk i ci h2).1 (plainIx_of h2)) fun σ H Q ⟨g, en, s, r, e, q⟩ => ?_
        refine tEv_seq r e q fun v H1 x s1 g1 r1 e1 a1 hx q1 => ?_
        refine tEv_seq r1 e1 q1 fun u H2 y s2 g2 r2 e2 a2 hy q2 => ?_
        exact idx_is X.K Z W σ g2 H2 s2 x y v u Q r2 (a2.rep hx) hy q2
end
end Ev
/-! EvF2: walked things, built-ins. -/
namespace Ev
open PySem PySem.Spec PyProof.Rows
open L2 (V HO Hp Cx Inv PE PT PA PS PSs PG PI PW PO RelV Vals upd upd_same upd_ne SqL SqT TE TT TA TS TG TI TO WX XK VK Room Takes EP)
section
variable {Z : Zx} {W : WX} {X : Cx} {σ : L2.St} {g g1 : Gh} {H H1 : Hp} {s s1 : S} {en : Env} {α β : Type} {K : PySem.W.Frag} {d n : Nat} {C : Ctx} {cF : Nat → List D → S → R D} {cV : D → List D → S → R D}
/-- one argument -/
theorem pa1 {e : Expr} {f : Env → S → R D} (h : PE X e (tEv Z C.cs X W f)) (hs : starEach [e] X.env = (false, eval e X.env) :: starEach [] X.env) : PA X [e] (L2.tCons (tEv Z C.cs X W f) L2.tNil) := L2.pa_cons h L2.pa_nil hs
theorem pi_list_or_tup {tg it : Expr} {f : Env → S → R D} (h : PE X it (tEv Z C.cs X W f)) : PI X tg it (tIv Z C.cs X W fun en s => (f en s).bind fun w s => ofO s ((sqOf s w).map fun p => .seq p.2)) :=
  pi_imp (pi_seq h) fun σ H R ⟨g, en, s, r, e, q⟩ => tEv_seq r e q fun v H1 x s1 g1 r1 e1 a1 hx q1 => by
    obtain ⟨ri, h1, h2⟩ := fin_ofO r1 q1
    cases h3 : sqOf s1 x with
    | none => rw [h3] at h1; cases h1
    | some p =>
      rw [h3] at h1
      cases h1
      obtain ⟨a, vs, rfl, h4⟩ := sqOf_is (K := X.K) r1 h3 hx
      refine ⟨a, rfl, ?_⟩
      rcases h4 with ⟨_, h5, k, h6, h7⟩ | ⟨_, h5, xs, h6, h7⟩
      · refine .inl ⟨⟨vs, h5⟩, h2 _ ?_⟩
        show Walks Z X.K g1 H1 (.seq p.2) _
        rw [h6]
        exact walks_box h7
      · refine .inr ⟨⟨vs, .inl (.inl h5)⟩, h2 _ ?_⟩
        show Walks Z X.K g1 H1 (.seq p.2) _
        rw [h6]
        exact walks_val h5 h7
theorem rngOk_is {i : Int} (h : rngOk i = true) : -(2 ^ 62) ≤ i ∧ i < 2 ^ 62 := by
  unfold rngOk at h
  simpa only [Bool.and_eq_true, decide_eq_true_eq] using h
theorem name_is {x y : Str} (h : (x == y) = true) : x = y := by simpa using h
theorem st_pi (zo : Zok Z) (ih : IHE Z d cF cV n) (G : Gd Z d C X) (tk : Takes X W) {tg it : Expr} {c : It}
    (h : trI (n + 1) C (isTup tg) it = some c) : PI X tg it (tIv Z C.cs X W (evI cF cV c)) := by
  have seq : ∀ {it : Expr} {c : It}, (trE n C it).map It.seq = some c → PI X tg it (tIv Z C.cs X W (evI cF cV c)) := fun {it c} h => by
    cases h1 : trE n C it with
    | none => rw [h1] at h; cases h
    | some ce =>
      rw [h1] at h
      cases h
      exact pi_list_or_tup (ih.pe C X W G tk it ce h1).1
  unfold trI at h
  split at h
  · rename_i x p es q
    cases hr : (isBu C x && x == ("range" : Str)) with
    | true =>
      rw [hr] at h
      simp only [cond_true] at h
      simp only [Bool.and_eq_true] at hr
      have hx := name_is hr.2
      subst hx
      obtain ⟨gl, mn⟩ := bu_of zo G hr.1 (by decide)
      split at h
      · rename_i a
        cases h1 : trE n C a with
        | none => rw [h1] at h; cases h
        | some ca =>
          rw [h1] at h
          cases h
          refine pi_imp (L2.pi_range1 gl mn (pa1 (ih.pe C X W G tk a ca h1).1 (star_of h1 [] X.env)) (star_of h1 [] X.env)) fun σ H R ⟨g, en, s, r, e, q⟩ => ?_
          have q : Fin Z W σ g H s ((evE cF cV ca en s).bind fun x s => ofO s (openRange [x])) (fun r s' g' H' => ∀ J, Walks Z X.K g' H' r J → R J H') := by
            have : evI cF cV (.range (.cons ca .nil)) en s = (evE cF cV ca en s).bind fun x s => ofO s (openRange [x]) := by
              simp only [evI, evEs]
              cases evE cF cV ca en s <;> rfl
            rw [← this]; exact q
          refine tEv_seq r e q fun v H1 x s1 g1 r1 e1 a1 hx q1 => ?_
          obtain ⟨ri, h2, h3⟩ := fin_ofO r1 q1
          unfold openRange at h2
          split at h2
          · rename_i hi heq
            cases heq
            cases hb : rngOk hi with
            | false => rw [hb] at h2; cases h2
            | true =>
              rw [hb] at h2
              cases h2
              obtain ⟨b1, b2⟩ := rngOk_is hb
              rw [rep_int hx]
              exact ⟨hi, rfl, b1, b2, h3 _ walks_rng⟩
          · rename_i heq; cases heq
          · cases h2
      · rename_i a b
        cases h1 : trE n C a with
        | none => simp only [h1] at h; cases h
        | some ca =>
          cases h2 : trE n C b with
          | none => simp only [h1, h2] at h; cases h
          | some cb =>
            simp only [h1, h2] at h
            cases h
            refine pi_imp (L2.pi_range2 gl mn (L2.pa_cons (ih.pe C X W G tk a ca h1).1 (pa1 (ih.pe C X W G tk b cb h2).1 (star_of h2 [] X.env)) (star_of h1 [b] X.env)) (by rw [star_of h1 [b] X.env, star_of h2 [] X.env] <;> rfl) (star_of h2 [] X.env)) fun σ H R ⟨g, en, s, r, e, q⟩ => ?_
            have q : Fin Z W σ g H s ((evE cF cV ca en s).bind fun x s => (evE cF cV cb en s).bind fun y s => ofO s (openRange [x, y])) (fun r s' g' H' => ∀ J, Walks Z X.K g' H' r J → R J H') := by
              have : evI cF cV (.range (.cons ca (.cons cb .nil))) en s = (evE cF cV ca en s).bind fun x s => (evE cF cV cb en s).bind fun y s => ofO s (openRange [x, y]) := by
                simp only [evI, evEs]
                cases evE cF cV ca en s with
                | ok x s' =>
                  simp only [Ev.R.bind_ok]
                  cases evE cF cV cb en s' <;> rfl
                | _ => rfl
              rw [← this]; exact q
            refine tEv_seq r e q fun v H1 x s1 g1 r1 e1 a1 hx q1 => ?_
            refine tEv_seq r1 e1 q1 fun u H2 y s2 g2 r2 e2 a2 hy q2 => ?_
            obtain ⟨ri, h3, h4⟩ := fin_ofO r2 q2
            unfold openRange at h3
            split at h3
            · rename_i heq; cases heq
            · rename_i lo hi heq
              cases heq
              cases hb : (rngOk lo && rngOk hi) with
              | false => rw [hb] at h3; cases h3
              | true =>
                rw [hb] at h3
                cases h3
                simp only [Bool.and_eq_true] at hb
                obtain ⟨b1, b2⟩ := rngOk_is hb.1
                obtain ⟨b3, b4⟩ := rngOk_is hb.2
                rw [rep_int hx, rep_int hy]
                exact ⟨lo, hi, rfl, ⟨b1, b2, b3, b4⟩, h4 _ walks_rng⟩
            · cases h3
      · cases h
    | false =>
      rw [hr] at h
      simp only [cond_false] at h
      cases hzp : (isBu C x && x == ("zip" : Str)) with
      | true =>
        rw [hzp] at h
        simp only [cond_true] at h
        simp only [Bool.and_eq_true] at hzp
        have hx := name_is hzp.2
        subst hx
        obtain ⟨gl, mn⟩ := bu_of zo G hzp.1 (by decide)
        cases ht : isTup tg with
        | false => rw [ht] at h; cases h
        | true =>
          rw [ht] at h
          simp only [cond_true] at h
          split at h
          · cases h
          · rename_i a b
            cases h1 : trE n C a with
            | none => simp only [h1] at h; cases h
            | some ca =>
              cases h2 : trE n C b with
              | none => simp only [h1, h2] at h; cases h
              | some cb =>
                simp only [h1, h2] at h
                cases h
                cases tg <;> first | cases ht | skip
                refine pi_imp (RZ.pi_zipA gl mn (L2.pa_cons (ih.pe C X W G tk a ca h1).1 (pa1 (ih.pe C X W G tk b cb h2).1 (star_of h2 [] X.env)) (star_of h1 [b] X.env)) (star_of h1 [b] X.env) (by rw [star_of h2 [] X.env] <;> rfl)) fun σ H R ⟨g, en, s, r, e, q⟩ => ?_
                refine tEv_seq r e q fun v H1 x s1 g1 r1 e1 a1 hx q1 => ?_
                refine tEv_seq r1 e1 q1 fun u H2 y s2 g2 r2 e2 a2 hy q2 => ?_
                obtain ⟨ri, h3, h4⟩ := fin_ofO r2 q2
                unfold openZip at h3
                cases h5 : sqOf s2 x with
                | none => simp only [h5] at h3; cases h3
                | some p =>
                  cases h6 : sqOf s2 y with
                  | none => simp only [h5, h6] at h3; cases h3
                  | some q =>
                    simp only [h5, h6] at h3
                    cases h7 : (p.1 == q.1) with
                    | false => rw [h7] at h3; cases h3
                    | true =>
                      rw [h7] at h3
                      cases h3
                      obtain ⟨a, vs, rfl, i1⟩ := sqOf_is (K := X.K) r2 h5 (a2.rep hx)
                      obtain ⟨b, us, rfl, i2⟩ := sqOf_is (K := X.K) r2 h6 hy
                      refine ⟨a, b, vs, us, rfl, ?_⟩
                      rcases i1 with ⟨j1, j2, k, j3, j4⟩ | ⟨j1, j2, xs, j3, j4⟩ <;> rcases i2 with ⟨k1, k2, l, k3, k4⟩ | ⟨k1, k2, ys, k3, k4⟩
                      · refine .inl ⟨j2, k2, h4 _ ?_⟩
                        rw [j3, k3]
                        exact walks_zipL j4 k4
                      · rw [j1, k1] at h7; cases h7
                      · rw [j1, k1] at h7; cases h7
                      · refine .inr ⟨.inl (.inl j2), .inl (.inl k2), h4 _ ?_⟩
                        rw [j3, k3]
                        exact walks_zipT j2 j4 k2 k4
          · cases h
      | false =>
        rw [hzp] at h
        simp only [cond_false] at h
        cases he : (isBu C x && x == ("enumerate" : Str)) with
        | true =>
          rw [he] at h
          simp only [cond_true] at h
          simp only [Bool.and_eq_true] at he
          have hx := name_is he.2
          subst hx
          obtain ⟨gl, mn⟩ := bu_of zo G he.1 (by decide)
          cases ht : isTup tg with
          | false => rw [ht] at h; cases h
          | true =>
            rw [ht] at h
            simp only [cond_true] at h
            split at h
            · rename_i a
              cases h1 : trE n C a with
              | none => rw [h1] at h; cases h
              | some ca =>
                rw [h1] at h
                cases h
                cases tg <;> first | cases ht | skip
                refine pi_imp (L2.pi_enum gl mn (pa1 (ih.pe C X W G tk a ca h1).1 (star_of h1 [] X.env)) (star_of h1 [] X.env)) fun σ H R ⟨g, en, s, r, e, q⟩ => ?_
                refine tEv_seq r e q fun v H1 x s1 g1 r1 e1 a1 hx q1 => ?_
                obtain ⟨ri, h3, h4⟩ := fin_ofO r1 q1
                unfold openEn at h3
                cases h5 : sqOf s1 x with
                | none => simp only [h5] at h3; cases h3
                | some p =>
                  simp only [h5] at h3
                  cases h6 : p.1 with
                  | true => rw [h6] at h3; cases h3
                  | false =>
                    rw [h6] at h3
                    cases h3
                    obtain ⟨a, vs, rfl, i1⟩ := sqOf_is (K := X.K) r1 h5 hx
                    rcases i1 with ⟨j1, j2, k, j3, j4⟩ | ⟨j1, j2, xs, j3, j4⟩
                    · refine ⟨a, vs, rfl, j2, h4 _ ?_⟩
                      rw [j3]
                      exact walks_en j4
                    · rw [h6] at j1; cases j1
            · cases h
        | false =>
          rw [he] at h
          simp only [cond_false] at h
          exact seq h
  · exact seq h
end
end Ev
/-! EvF3: built-ins. -/
namespace Ev
open PySem PySem.Spec PyProof.Rows
open L2 (V HO Hp Cx Inv PE PT PA PS PSs PG PI PW PO RelV Vals upd upd_same upd_ne SqL SqT TE TT TA TS TG TI TO WX XK VK Room Takes EP)
section
variable {Z : Zx} {W : WX} {X : Cx} {σ : L2.St} {g g1 : Gh} {H H1 : Hp} {s s1 : S} {en : Env} {α β : Type} {K : PySem.W.Frag} {d n : Nat} {C : Ctx} {cF : Nat → List D → S → R D} {cV : D → List D → S → R D}
theorem base_of {a : Expr} (h : isCall0 a = false) (m : Str) (env : PySem.Env) (w : Sem Value) : attributeBase a m env w = w := by
  cases a <;> first | rfl | cases h
theorem boot_ty (u : Ty) : bootBuiltins (Str.ofString (tyS (some u))) = some (.type (tyS (some u))) := by
  cases u <;> decide +kernel
theorem tyNames_is {x : Str} {u : Ty} (h : tyNames.lookup x = some u) : x = Str.ofString (tyS (some u)) := by
  have := PySem.mem_of_lookup h
  simp only [tyNames, List.mem_cons, Prod.mk.injEq, List.not_mem_nil, or_false] at this
  rcases this with ⟨rfl, rfl⟩ | ⟨rfl, rfl⟩ | ⟨rfl, rfl⟩ | ⟨rfl, rfl⟩ | ⟨rfl, rfl⟩ | ⟨rfl, rfl⟩ <;> rfl
theorem ty_in (u : Ty) : Str.ofString (tyS (some u)) ∈ buS := by cases u <;> decide
theorem trTy_pe (zo : Zok Z) (G : Gd Z d C X) {e : Expr} {u : Ty} (h : trTy C e = some u) : PE X e (L2.tC (.ty (tyS (some u)))) ∧ ∀ es env, starEach (e :: es) env = (false, eval e env) :: starEach es env := by
  unfold trTy at h
  split at h
  · rename_i x p
    cases hb : isBu C x with
    | false => rw [hb] at h; cases h
    | true =>
      rw [hb] at h
      have hx := tyNames_is h
      subst hx
      obtain ⟨gl, mn⟩ := bu_of zo G hb (ty_in u)
      have hgl : isGl C (Str.ofString (tyS (some u))) = true := by
        unfold isBu at hb
        simp only [Bool.and_eq_true] at hb
        exact hb.1.1
      exact ⟨L2.pe_bltn gl mn (boot_ty u) rfl (by cases u <;> decide) (gl_of G hgl).2, fun _ _ => rfl⟩
  · cases h
theorem trTys_pa (zo : Zok Z) (G : Gd Z d C X) : ∀ {es : List Expr} {us : List Ty}, mapO (trTy C) es = some us → PA X es (fun σ H Q => Q (us.map fun u => V.ty (tyS (some u))) H)
  | [], us, h => by
    cases h
    exact L2.pa_nil
  | e :: es, us, h => by
    obtain ⟨u, us', h1, h2, rfl⟩ := mapO_cons h
    obtain ⟨p1, p2⟩ := trTy_pe zo G h1
    exact L2.pa_cons p1 (trTys_pa zo G h2) (p2 es X.env)
theorem mapO_len {f : α → Option β} : ∀ {as : List α} {bs : List β}, mapO f as = some bs → bs.length = as.length
  | [], bs, h => by cases h; rfl
  | a :: as, bs, h => by
    obtain ⟨b, cs, _, h2, rfl⟩ := mapO_cons h
    simp [mapO_len h2]
theorem cls_paired : ∀ us : List Ty, Paired L2.ClsV (us.map fun u => V.ty (tyS (some u))) (us.map fun u => Value.type (tyS (some u)))
  | [] => .nil
  | u :: us => .cons (.ty _) (cls_paired us)
theorem ny {x : Str} {y : String} (h : x = Str.ofString y) : x = Str.ofString y := h
/-- a built-in function of one argument -/
theorem bu_fn {x : Str} {p pos : Pos} {a : Expr} {ca : E} {id : String} {r : List V → Hp → VK → Prop} {f : S → D → R D} (hc : L2.CallR X (.builtin id) r) (gl : L2.Gl X x) (mn : X.mg x = none) (hv : bootBuiltins x = some (.builtin id)) (hn : x ≠ "__name__") (hd : (x == ("__debug__" : Str)) = false)
    (ha : PE X a (tEv Z C.cs X W (evE cF cV ca))) (hs : starEach [a] X.env = (false, eval a X.env) :: starEach [] X.env) (hf : Cal1 r f) : PE X (.Call (.Name x p) [a] [] pos) (tEv Z C.cs X W fun en s => (evE cF cV ca en s).bind fun x s => f s x) :=
  pe_imp (L2.pe_callB hc gl mn hv (pa1 ha hs) hn hd hs rfl) fun σ H Q ⟨g, en, s, r, e, q⟩ => tEv_seq r e q fun v H1 x s1 g1 r1 e1 a1 hx q1 => hf Z W σ g1 H1 s1 x v Q r1 hx q1
theorem bu_ty {x : Str} {p pos : Pos} {a : Expr} {ca : E} {T : String} {r : List V → Hp → VK → Prop} {f : S → D → R D} (hc : L2.CallR X (.type T) r) (gl : L2.Gl X x) (mn : X.mg x = none) (hv : bootBuiltins x = some (.type T)) (hn : x ≠ "__name__") (hd : (x == ("__debug__" : Str)) = false)
    (ha : PE X a (tEv Z C.cs X W (evE cF cV ca))) (hs : starEach [a] X.env = (false, eval a X.env) :: starEach [] X.env) (hf : Cal1 r f) : PE X (.Call (.Name x p) [a] [] pos) (tEv Z C.cs X W fun en s => (evE cF cV ca en s).bind fun x s => f s x) :=
  pe_imp (L2.pe_callTy hc gl mn hv (pa1 ha hs) hn hd hs rfl) fun σ H Q ⟨g, en, s, r, e, q⟩ => tEv_seq r e q fun v H1 x s1 g1 r1 e1 a1 hx q1 => hf Z W σ g1 H1 s1 x v Q r1 hx q1
theorem st_bu (zo : Zok Z) (ih : IHE Z d cF cV n) (G : Gd Z d C X) (tk : Takes X W) {x : Str} {p : Pos} {es : List Expr} {c : E} {pos : Pos}
    (hz : ∀ (a : Expr) (f : Env → S → R D) (p p2 sp p3 pos : Pos), PE X a (tEv Z C.cs X W f) → L2.Gl X "zip" → X.mg "zip" = none → L2.Gl X "tuple" → X.mg "tuple" = none → PE X (.Call (.Name "tuple" p) [.Call (.Name "zip" p2) [.Starred a sp] [] p3] [] pos) (tEv Z C.cs X W fun en s => (f en s).bind fun w s => zipTW s w))
    (hb : isBu C x = true) (h : trBu (n + 1) C x es = some c) : PE X (.Call (.Name x p) es [] pos) (tEv Z C.cs X W (evE cF cV c)) := by
  unfold trBu at h
  split at h
  · rename_i a t
    cases hi : (x == ("isinstance" : Str)) with
    | true =>
      rw [hi] at h
      simp only [cond_true] at h
      have hx := name_is hi
      subst hx
      obtain ⟨gl, mn⟩ := bu_of zo G hb (by decide)
      cases h1 : trE n C a with
      | none => simp only [h1] at h; cases h
      | some ca =>
        cases h2 : trTys C t with
        | none => simp only [h1, h2] at h; cases h
        | some ts =>
          simp only [h1, h2] at h
          cases h
          have ha := (ih.pe C X W G tk a ca h1).1
          unfold trTys at h2
          split at h2
          · rename_i es k tp
            cases hl : Nat.ble es.length 30 with
            | false => rw [hl] at h2; cases h2
            | true =>
              rw [hl] at h2
              have pt := L2.pe_tup (x1 := k) (pos := tp) (trTys_pa zo G h2)
              refine pe_imp (L2.pe_callB L2.call_isiT gl mn PyProof.Rows.boot_isinstance (L2.pa_cons ha (L2.pa_cons pt L2.pa_nil rfl) (star_of h1 _ X.env)) (by decide) (by decide) (star_of h1 _ X.env) rfl) fun σ H Q ⟨g, en, s, r, e, q⟩ => ?_
              refine tEv_seq r e q fun v H1 x s1 g1 r1 e1 a1 hx q1 => ?_
              obtain ⟨t, ty, q2⟩ := inst_is q1
              refine ⟨?_, fun tp hp => ?_⟩
              · rw [List.length_map, mapO_len h2]
                exact Nat.le_trans (Nat.le_of_ble_eq_true hl) (by decide)
              · refine ⟨v, tp, _, _, _, _, rfl, upd_same, cls_paired ts, ?_, kit_any t ts, ?_⟩
                · exact tyOf_is (r1.aside (ext_new hp)) ty (Rep.mono ⟨[], by simp⟩ (fun b ys e => ext_new hp b _ e) _ _ hx)
                · exact q2 g1 _ (After.aside (ext_new hp)) (r1.aside (ext_new hp)) _ (Rep.bl _)
          · cases h3 : trTy C t with
            | none => rw [h3] at h2; cases h2
            | some u =>
              rw [h3] at h2
              cases h2
              obtain ⟨p1, p2⟩ := trTy_pe zo G h3
              refine pe_imp (L2.pe_callB L2.call_isi gl mn PyProof.Rows.boot_isinstance (L2.pa_cons ha (L2.pa_cons p1 L2.pa_nil (p2 [] X.env)) (star_of h1 _ X.env)) (by decide) (by decide) (star_of h1 _ X.env) (by rw [p2 [] X.env] <;> rfl)) fun σ H Q ⟨g, en, s, r, e, q⟩ => ?_
              refine tEv_seq r e q fun v H1 x s1 g1 r1 e1 a1 hx q1 => ?_
              obtain ⟨t, ty, q2⟩ := inst_is q1
              refine ⟨v, _, _, _, _, rfl, .ty _, tyOf_is r1 ty hx, L2.kit_ty (kitB_is t u), ?_⟩
              have : [u].any (instB t) = instB t u := by simp
              rw [this] at q2
              exact fin_val r1 q2 (Rep.bl _)
    | false =>
      rw [hi] at h
      simp only [cond_false] at h
      cases hd : (x == ("divmod" : Str)) with
      | false => rw [hd] at h; cases h
      | true =>
        rw [hd] at h
        simp only [cond_true] at h
        have hx := name_is hd
        subst hx
        obtain ⟨gl, mn⟩ := bu_of zo G hb (by decide)
        cases h1 : trE n C a with
        | none => simp only [h1] at h; cases h
        | some ca =>
          cases h2 : trE n C t with
          | none => simp only [h1, h2] at h; cases h
          | some cb =>
            simp only [h1, h2] at h
            cases h
            refine pe_imp (L2.pe_callB L2.call_divmod gl mn PyProof.Rows.boot_divmod (L2.pa_cons (ih.pe C X W G tk a ca h1).1 (pa1 (ih.pe C X W G tk t cb h2).1 (star_of h2 [] X.env)) (star_of h1 _ X.env)) (by decide) (by decide) (star_of h1 _ X.env) (by rw [star_of h2 [] X.env] <;> rfl)) fun σ H Q ⟨g, en, s, r, e, q⟩ => ?_
            refine tEv_seq r e q fun v H1 x s1 g1 r1 e1 a1 hx q1 => ?_
            refine tEv_seq r1 e1 q1 fun u H2 y s2 g2 r2 e2 a2 hy q2 => ?_
            exact divmod_is r2 (a2.rep hx) hy q2
  · rename_i y p2 a sp p3
    cases hy : (x == ("tuple" : Str) && isBu C y && y == ("zip" : Str)) with
    | false => rw [hy] at h; cases h
    | true =>
      rw [hy] at h
      simp only [Bool.and_eq_true] at hy
      have hx := name_is hy.1.1
      subst hx
      have hx := name_is hy.2
      subst hx
      obtain ⟨gl, mn⟩ := bu_of zo G hb (by decide)
      obtain ⟨gl2, mn2⟩ := bu_of zo G hy.1.2 (by decide)
      cases h1 : trE n C a with
      | none => rw [h1] at h; cases h
      | some ca =>
        rw [h1] at h
        cases h
        exact hz a _ p p2 sp p3 pos (ih.pe C X W G tk a ca h1).1 gl2 mn2 gl mn
  · rename_i dd m ap cp
    cases hy : (x == ("list" : Str) && m == ("items" : Str) && ap.endLine == cp.line && !isCall0 dd) with
    | false => rw [hy] at h; cases h
    | true =>
      rw [hy] at h
      simp only [Bool.and_eq_true, Bool.not_eq_true'] at hy
      obtain ⟨⟨⟨hx, hm⟩, hl⟩, hc⟩ := hy
      have hx := name_is hx
      subst hx
      have hm := name_is hm
      subst hm
      obtain ⟨gl, mn⟩ := bu_of zo G hb (by decide)
      cases h1 : trE n C dd with
      | none => rw [h1] at h; cases h
      | some ca =>
        rw [h1] at h
        cases h
        refine pe_imp (LiI.pe_listItems G.calm (ih.pe C X W G tk dd ca h1).1 gl mn PyProof.Rows.boot_list (base_of hc _ _ _) hl rfl) fun σ H Q ⟨g, en, s, r, e, q⟩ => ?_
        exact tEv_seq r e q fun v H1 x s1 g1 r1 e1 a1 hx q1 => items_is r1 hx q1
  · rename_i a _ _
    cases h0 : buNames.lookup x with
    | none => simp only [h0] at h; cases h
    | some b =>
      cases h1 : trE n C a with
      | none => simp only [h0, h1] at h; cases h
      | some ca =>
        simp only [h0, h1] at h
        cases h
        have ha := (ih.pe C X W G tk a ca h1).1
        have hs := star_of h1 [] X.env
        have hm := PySem.mem_of_lookup h0
        simp only [buNames, List.mem_cons, Prod.mk.injEq, List.not_mem_nil, or_false] at hm
        rcases hm with ⟨rfl, rfl⟩ | ⟨rfl, rfl⟩ | ⟨rfl, rfl⟩ | ⟨rfl, rfl⟩ | ⟨rfl, rfl⟩ | ⟨rfl, rfl⟩ | ⟨rfl, rfl⟩ <;> obtain ⟨gl, mn⟩ := bu_of zo G hb (by decide)
        · exact bu_fn L2.call_len gl mn PySem.boot_len (by decide) (by decide) ha hs (len_is X.K)
        · exact bu_ty L2.call_tuple_of gl mn PyProof.Rows.boot_tuple (by decide) (by decide) ha hs (tuple_is X.K)
        · exact bu_ty L2.call_list_of gl mn PyProof.Rows.boot_list (by decide) (by decide) ha hs (list_is X.K)
        · exact bu_ty L2.call_int1 gl mn PyProof.Rows.boot_int (by decide) (by decide) ha hs int_is
        · exact bu_fn L2.call_abs gl mn PyProof.Rows.boot_abs (by decide) (by decide) ha hs abs_is
        · exact bu_fn (L2.cr_all G.calm) gl mn PyProof.Rows.boot_all (by decide) (by decide) ha hs (all_is X.K)
        · exact bu_fn (L2.cr_sum G.calm) gl mn PyProof.Rows.boot_sum (by decide) (by decide) ha hs (sum_is X.K)
  · cases h
end
end Ev
/-! EvF4: calls. -/
namespace Ev
open PySem PySem.Spec PyProof.Rows
open L2 (V HO Hp Cx Inv PE PT PA PS PSs PG PI PW PO PK RelV Vals upd upd_same upd_ne SqL SqT TE TT TA TS TG TI TO WX XK VK Room Takes EP)
section
variable {Z : Zx} {W : WX} {X : Cx} {σ : L2.St} {g g1 : Gh} {H H1 : Hp} {s s1 : S} {en : Env} {α β : Type} {K : PySem.W.Frag} {d n : Nat} {C : Ctx} {cF : Nat → List D → S → R D} {cV : D → List D → S → R D}
theorem pk_imp {kws : List Keyword} {t t' : TA} (h : PK X kws t) (hi : ∀ σ H Q, t' σ H Q → t σ H Q) : PK X kws t' := ⟨fun pos pins s σ H Q I hw => h.run pos pins s σ H Q I (hi _ _ _ hw)⟩
theorem st_pk (ih : IHE Z d cF cV n) (G : Gd Z d C X) (tk : Takes X W) {kws : List Keyword} {cs : Es} (h : trL (n + 1) C (kws.map (·.value)) = some cs) : PK X kws (tAv Z C.cs X W (evEs cF cV cs)) := by
  cases kws with
  | nil =>
    cases h
    exact pk_imp L2.pk_nil fun σ H Q ⟨g, en, s, r, e, q⟩ => fin_ok (K := KVs Q) r q [] reps_nil
  | cons k kws =>
    obtain ⟨nm, e, kp⟩ := k
    unfold trL at h
    simp only [List.map_cons] at h
    cases h1 : trE n C e with
    | none => simp only [h1] at h; cases h
    | some c =>
      cases h2 : trL n C (kws.map (·.value)) with
      | none => simp only [h1, h2] at h; cases h
      | some cs' =>
        simp only [h1, h2] at h
        cases h
        refine pk_imp (L2.pk_cons (ih.pe C X W G tk e c h1).1 (ih.pk C X W G tk kws cs' h2)) fun σ H Q ⟨g, en, s, r, e, q⟩ => ?_
        refine tEv_seq r e q fun v H1 x s1 g1 r1 e1 a1 hx q1 => ?_
        refine tAv_seq r1 e1 q1 fun vs H2 xs s2 g2 r2 e2 a2 hxs q2 => ?_
        exact fin_ok (K := KVs Q) r2 q2 _ (reps_cons (a2.rep hx) hxs)
theorem kw_of : ∀ {kws : List Keyword} {ns : List Str}, mapO (fun k : Keyword => k.arg) kws = some ns → ∀ (env : PySem.Env) (pos : Pos),
    (backToKw pos (keywordEach kws env)).all (·.1.isSome) = true ∧ (backToKw pos (keywordEach kws env)).filterMap (·.1) = ns ∧ (backToKw pos (keywordEach kws env)).any (·.1.isNone) = false
  | [], ns, h, _, _ => by cases h; exact ⟨rfl, rfl, rfl⟩
  | ⟨nm, e, kp⟩ :: kws, ns, h, env, pos => by
    obtain ⟨b, cs, h1, h2, rfl⟩ := mapO_cons h
    have h1 : nm = some b := h1
    subst h1
    obtain ⟨i1, i2, i3⟩ := kw_of h2 env pos
    refine ⟨?_, ?_, ?_⟩
    · show (true && (backToKw pos (keywordEach kws env)).all (·.1.isSome)) = true
      rw [i1] <;> rfl
    · show b :: (backToKw pos (keywordEach kws env)).filterMap (·.1) = _
      rw [i2]
    · show (false || (backToKw pos (keywordEach kws env)).any (·.1.isNone)) = false
      rw [i3] <;> rfl
theorem findFn {l : List (Str × List Str)} {x : Str} {f : Nat} (h : l.findIdx? (fun q => q.1 == x) = some f) : ∃ q, l[f]? = some q ∧ q.1 = x := by
  obtain ⟨h1, h2, _⟩ := List.findIdx?_eq_some_iff_getElem.mp h
  exact ⟨l[f], List.getElem?_eq_getElem h1, by simpa using h2⟩
theorem perm_is {φ : List Addr} {ds : List D} {vs : List V} {us : List Value} (hr : Reps φ H ds vs) (hv : Vals vs us) : ∀ {pm : List Nat} {es : List D}, mapO (fun i => ds[i]?) pm = some es → ∃ vs' us', mapO (fun i => us[i]?) pm = some us' ∧ Vals vs' us' ∧ Reps φ H es vs'
  | [], es, h => by cases h; exact ⟨[], [], rfl, .nil, reps_nil⟩
  | i :: pm, es, h => by
    obtain ⟨b, cs, h1, h2, rfl⟩ := mapO_cons h
    obtain ⟨vs', us', i1, i2, i3⟩ := perm_is hr hv h2
    obtain ⟨v, j1, j2⟩ := hr.get h1
    obtain ⟨u, j3, j4⟩ := hv.get j1
    refine ⟨v :: vs', u :: us', ?_, .cons j4 i2, reps_cons j2 i3⟩
    unfold mapO
    simp only [j3, i1]
def esLen : Es → Nat
  | .nil => 0
  | .cons _ r => esLen r + 1
theorem evEs_len : ∀ {es : Es} {en : Env} {s s' : S} {ws : List D}, evEs cF cV es en s = .ok ws s' → ws.length = esLen es
  | .nil, _, _, _, _, h => by unfold evEs at h; cases h; rfl
  | .cons e r, en, s, s', ws, h => by
    unfold evEs at h
    cases h1 : evE cF cV e en s with
    | bad => rw [h1] at h; cases h
    | ex c vs s1 => rw [h1] at h; cases h
    | ok w s1 =>
      rw [h1] at h
      simp only [Ev.R.bind_ok] at h
      cases h2 : evEs cF cV r en s1 with
      | bad => rw [h2] at h; cases h
      | ex c vs s2 => rw [h2] at h; cases h
      | ok us s2 =>
        rw [h2] at h
        cases h
        simp only [List.length_cons, esLen, evEs_len h2]
theorem trL_len : ∀ {n : Nat} {es : List Expr} {cs : Es}, trL n C es = some cs → esLen cs = es.length
  | 0, _, _, h => by unfold trL at h; cases h
  | n + 1, [], _, h => by unfold trL at h; cases h; rfl
  | n + 1, e :: es, cs, h => by
    unfold trL at h
    cases h1 : trE n C e with
    | none => simp only [h1] at h; cases h
    | some c =>
      cases h2 : trL n C es with
      | none => simp only [h1, h2] at h; cases h
      | some cs' =>
        simp only [h1, h2] at h
        cases h
        simp only [esLen, trL_len h2, List.length_cons]
theorem starL_of {a : Expr} {es : List Expr} {as : Es} (h1 : trL n C (a :: es) = some as) (env : PySem.Env) (pos : Pos) : starEach (a :: es) env = (false, eval a env) :: starEach es env ∧ (backTo pos (starEach es env)).any (·.1) = false := by
  have hs : starEach (a :: es) env = (false, eval a env) :: starEach es env := by
    cases n with
    | zero => unfold trL at h1; cases h1
    | succ n =>
      unfold trL at h1
      cases h2 : trE n C a with
      | none => simp only [h2] at h1; cases h1
      | some c => exact star_of h2 es env
  refine ⟨hs, ?_⟩
  have := stars_of h1 env pos
  rw [hs] at this
  have : (false || (backTo pos (starEach es env)).any (·.1)) = false := this
  rw [Bool.false_or] at this
  exact this
theorem st_df (zo : Zok Z) (hcall : CallP Z d cF) (ih : IHE Z d cF cV n) (G : Gd Z d C X) (tk : Takes X W) {x : Str} {p : Pos} {f : Nat} {es : List Expr} {kws : List Keyword} {c : E} {pos : Pos} (hgl : isGl C x = true) (hf : C.T.fns.findIdx? (fun q => q.1 == x) = some f)
    (h : trDef (n + 1) C f es kws = some c) : PE X (.Call (.Name x p) es kws pos) (tEv Z C.cs X W (evE cF cV c)) := by
  obtain ⟨gl, hdb⟩ := gl_of G hgl
  obtain ⟨hm, hk⟩ := zo.fn x f (by rw [← G.T]; exact hf)
  have hm : X.mg x = some (.ref (Z.fa f)) := by rw [G.mg]; exact hm
  have hk : PySem.W.keepIn X.K (.ref (Z.fa f)) = true := by rw [G.K]; exact hk
  unfold trDef at h
  split at h
  · cases h0 : C.T.fns[f]? with
    | none => simp only [h0] at h; cases h
    | some q =>
      simp only [h0] at h
      have h0' : Z.tx.fns[f]? = some q := by rw [← G.T]; exact h0
      cases hl : Nat.beq q.2.length es.length with
      | false => rw [hl] at h; cases h
      | true =>
        rw [hl] at h
        have hl := Nat.eq_of_beq_eq_true hl
        cases h1 : trL n C es with
        | none => rw [h1] at h; cases h
        | some as =>
          rw [h1] at h
          cases h
          have pa := ih.pa C X W G tk es as h1
          refine ⟨fun pins s0 σ H Q I ⟨g, en, s, r, e, hq⟩ => ?_⟩
          have hq : Fin Z W σ g H s ((evEs cF cV as en s).bind fun ws s => cF f ws s) (KV Q) := by
            have : evE cF cV (.call f [] as .nil) en s = (evEs cF cV as en s).bind fun ws s => cF f ws s := by
              simp only [evE, evEs, permW, ofO]
              cases evEs cF cV as en s with
              | ok ws s' => simp only [Ev.R.bind_ok, List.append_nil]
              | _ => rfl
            rw [← this]; exact hq
          refine wpAny_Call_Name_kw (L2.ld_glob I gl hm ?_ hdb)
          cases es with
          | nil =>
            have : as = .nil := by
              cases n with
              | zero => unfold trL at h1; cases h1
              | succ n => unfold trL at h1; cases h1; rfl
            subst this
            refine PySem.W.callWith_K0 I.kIn hk ?_
            exact hcall C X W G tk f q h0' [] [] [] [] (.inl ⟨rfl, rfl, rfl⟩) pins s0 σ H [] Q g en s [] I .nil r e reps_nil hq
          | cons a es =>
            obtain ⟨hs, hpl⟩ := starL_of h1 X.env pos
            refine PySem.W.callWith_K (h₀ := X.base) I.ok.mod.kin hk (L2.thn (pa.run pos pins s0 σ H _ I (tAv_seq r e hq fun vs H1 ws s1 g1 r1 e1 a1 hw q1 => show ∃ g1 s1 ws, RelS Z g1 H1 s1 ∧ RelE C.cs X g1 H1 σ en s1 ∧ Reps g1.φ H1 ws vs ∧ Fin Z W σ g1 H1 s1 (cF f ws s1) (KV Q) from ⟨g1, s1, ws, r1, e1, hw, q1⟩)) fun us s1 ⟨vs, H1, I1, r1, g1, sc, ws, i1, i2, i3, i4⟩ => ⟨I1.kIn, ?_⟩) hs hpl
            exact hcall C X W G tk f q h0' us [] [] us (.inl ⟨rfl, rfl, rfl⟩) pins s1 σ H1 vs Q g1 en sc ws I1 r1 i1 i2 i3 i4
  · cases h1 : trL n C es with
    | none => simp only [h1] at h; cases h
    | some as =>
      cases h2 : trL n C (kws.map (·.value)) with
      | none => simp only [h1, h2] at h; cases h
      | some ks =>
        cases h3 : mapO (fun k : Keyword => k.arg) kws with
        | none => simp only [h1, h2, h3] at h; cases h
        | some ns =>
          cases h0 : C.T.fns[f]? with
          | none => simp only [h1, h2, h3, h0] at h; cases h
          | some q =>
            simp only [h1, h2, h3, h0] at h
            have h0' : Z.tx.fns[f]? = some q := by rw [← G.T]; exact h0
            cases hc : C.T.kcs.contains (f, es.length, ns) with
            | false => rw [hc] at h; cases h
            | true =>
              rw [hc] at h
              simp only [cond_true] at h
              cases hpm : permOf q.2 es.length ns with
              | none => rw [hpm] at h; cases h
              | some pm0 =>
                rw [hpm] at h
                cases pm0 with
                | nil => cases h
                | cons i0 pm =>
                cases h
                have hkc : (f, es.length, ns) ∈ Z.tx.kcs := by rw [← G.T]; simpa using hc
                obtain ⟨k1, k2, k3⟩ := kw_of h3 X.env pos
                have pa := ih.pa C X W G tk es as h1
                have pk := ih.pk C X W G tk kws ks h2
                refine ⟨fun pins s0 σ H Q I ⟨g, en, s, r, e, hq⟩ => ?_⟩
                have hq : Fin Z W σ g H s ((evEs cF cV as en s).bind fun ws s => (evEs cF cV ks en s).bind fun us s => (ofO s (permW (i0 :: pm) (ws ++ us))).bind fun ws s => cF f ws s) (KV Q) := hq
                refine wpAny_Call_Name_kw (L2.ld_glob I gl hm ?_ hdb)
                have lk : esLen ks = ns.length := by rw [trL_len h2, List.length_map, mapO_len h3]
                have fin : ∀ (us0 ws0 : List Value) (s2 : Shared) (vs zs : List V) (H2 : Hp) (ws zw : List D) (sc : S) (g2 : Gh), us0.length = es.length → ws0.length = ns.length → Inv X pins σ H2 s2 → Vals vs us0 → Vals zs ws0 → RelS Z g2 H2 sc → RelE C.cs X g2 H2 σ en sc → Reps g2.φ H2 ws vs → Reps g2.φ H2 zw zs →
                    Fin Z W σ g2 H2 sc ((ofO sc (permW (i0 :: pm) (ws ++ zw))).bind fun ws s => cF f ws s) (KV Q) → wpAny (model X.prog X.w) X.A (call (.ref (Z.fa f)) us0 (ns.zip ws0)) (EP X pins σ Q) X.xe s2 := by
                  intro us0 ws0 s2 vs zs H2 ws zw sc g2 l1 l2 I2 rv rz i1 i2 i3 i4 i5
                  cases hp : permW (i0 :: pm) (ws ++ zw) with
                  | none => rw [hp] at i5; exact i5.elim
                  | some ws' =>
                    rw [hp] at i5
                    obtain ⟨vs', us', j1, j2, j3⟩ := perm_is (i3.append i4) (L2.Vals.append rv rz) hp
                    exact hcall C X W G tk f q h0' us0 ns ws0 us' (.inr ⟨by rw [l1]; exact hkc, l2, _, by rw [l1]; exact hpm, j1⟩) pins s2 σ H2 vs' Q g2 en sc ws' I2 j2 i1 i2 j3 i5
                cases es with
                | nil =>
                  have : as = .nil := by
                    cases n with
                    | zero => unfold trL at h1; cases h1
                    | succ n => unfold trL at h1; cases h1; rfl
                  subst this
                  refine PySem.W.callWith_KW0 (h₀ := X.base) I.ok.mod.kin hk k1 (L2.thn (pk.run pos pins s0 σ H _ I (tAv_seqL (f := evEs cF cV ks) r e hq fun zs H1 zw s1 g1 hl r1 e1 a1 hw q1 => show ∃ g1 s1 zw, zw.length = ns.length ∧ RelS Z g1 H1 s1 ∧ RelE C.cs X g1 H1 σ en s1 ∧ Reps g1.φ H1 zw zs ∧ Fin Z W σ g1 H1 s1 ((ofO s1 (permW (i0 :: pm) ([] ++ zw))).bind fun ws s => cF f ws s) (KV Q) from ⟨g1, s1, zw, by rw [evEs_len hl, lk], r1, e1, hw, q1⟩)) fun ws0 s1 ⟨zs, H1, I1, rz, g1, sc, zw, l2, i1, i2, i3, i4⟩ => ⟨I1.kIn, ?_⟩) k3
                  rw [k2]
                  exact fin [] ws0 s1 [] zs H1 [] zw sc g1 rfl (by rw [← rz.length, ← i3.len, l2]) I1 .nil rz i1 i2 reps_nil i3 i4
                | cons a es =>
                  obtain ⟨hs, hpl⟩ := starL_of h1 X.env pos
                  have hpl2 : ((backTo pos (starEach (a :: es) X.env)).any (·.1) || (backToKw pos (keywordEach kws X.env)).any (·.1.isNone)) = false := by
                    rw [stars_of h1 X.env pos, k3] <;> rfl
                  refine PySem.W.callWith_KW (h₀ := X.base) I.ok.mod.kin hk k1 (L2.thn (pa.run pos pins s0 σ H _ I (tAv_seqL r e hq fun vs H1 ws s1 g1 hl r1 e1 a1 hw q1 => show ∃ g1 s1 ws, ws.length = (a :: es).length ∧ RelS Z g1 H1 s1 ∧ RelE C.cs X g1 H1 σ en s1 ∧ Reps g1.φ H1 ws vs ∧ Fin Z W σ g1 H1 s1 ((evEs cF cV ks en s1).bind fun us s => (ofO s (permW (i0 :: pm) (ws ++ us))).bind fun ws s => cF f ws s) (KV Q) from ⟨g1, s1, ws, by rw [evEs_len hl, trL_len h1], r1, e1, hw, q1⟩)) fun us0 s1 ⟨vs, H1, I1, rv, g1, sc, ws, l1, i1, i2, i3, i4⟩ => ?_) hpl2 hs
                  refine L2.thn (pk.run pos pins s1 σ H1 _ I1 (tAv_seqL (f := evEs cF cV ks) i1 i2 i4 fun zs H2 zw s2 g2 hl r2 e2 a2 hw q2 => show ∃ g2 s2 zw, zw.length = ns.length ∧ RelS Z g2 H2 s2 ∧ RelE C.cs X g2 H2 σ en s2 ∧ Reps g2.φ H2 ws vs ∧ Reps g2.φ H2 zw zs ∧ Fin Z W σ g2 H2 s2 ((ofO s2 (permW (i0 :: pm) (ws ++ zw))).bind fun ws s => cF f ws s) (KV Q) from ⟨g2, s2, zw, by rw [evEs_len hl, lk], r2, e2, a2.reps i3, hw, q2⟩)) fun ws0 s2 ⟨zs, H2, I2, rz, g2, sc2, zw, l2, j1, j2, j3, j4, j5⟩ => ⟨I2.kIn, ?_⟩
                  rw [k2]
                  exact fin us0 ws0 s2 vs zs H2 ws zw sc2 g2 (by rw [← rv.length, ← i3.len, l1]) (by rw [← rz.length, ← j4.len, l2]) I2 rv rz j1 j2 j3 j4 j5
end
end Ev
/-! EvF5: methods, lambdas called. -/
namespace Ev
open PySem PySem.Spec PyProof.Rows
open L2 (V HO Hp Cx Inv PE PT PA PS PSs PG PI PW PO PK RelV Vals upd upd_same upd_ne SqL SqT TE TT TA TS TG TI TO WX XK VK Room Takes EP)
section
variable {Z : Zx} {W : WX} {X : Cx} {σ : L2.St} {g g1 : Gh} {H H1 : Hp} {s s1 : S} {en : Env} {α β : Type} {K : PySem.W.Frag} {d n : Nat} {C : Ctx} {cF : Nat → List D → S → R D} {cV : D → List D → S → R D}
theorem isLst_is {x : D} {v : V} (r : RelS Z g H s) (h : isLst s x = true) (hx : Rep g.φ H x v) : L2.tyV K "list" v H := by
  cases x with
  | ref k =>
    simp only [isLst] at h
    obtain ⟨xs, hxs⟩ := Option.isSome_iff_exists.mp h
    obtain ⟨a, vs, rfl, h2, _⟩ := r.lstAt hxs hx
    exact .inl ⟨rfl, vs, .inl h2⟩
  | _ => cases h
theorem pe_var_of (G : Gd Z d C X) {x : Str} {i : Nat} {p : Pos} (h : C.slot x = some i) : PE X (.Name x p) (tEv Z C.cs X W (evE cF cV (.var i))) := by
  obtain ⟨h1, h2, h3, h4⟩ := slot_of G h
  refine pe_imp (L2.pe_var h1 h2 h3 h4) fun σ H Q ⟨g, en, s, r, e, q⟩ => ?_
  obtain ⟨w, hw, k⟩ := fin_ofO (o := en.get i) r q
  unfold Env.get at hw
  have hw : en.σ[i]? = some (some w) := by
    cases e2 : en.σ[i]? with
    | none => rw [e2] at hw; cases hw
    | some o => rw [e2] at hw; exact congrArg some hw
  obtain ⟨v, h5, h6⟩ := e.slot i w hw
  exact ⟨v, h5, k v h6⟩
theorem isClo_is {x : D} {v : V} (r : RelS Z g H s) (h : isClo s x = true) (hx : Rep g.φ H x v) : ∃ (a : Addr) (q : Str) (params : Arguments) (bd : Expr) (scope : Scope) (cl : List (Str × Addr)) (pm : Value) (c' : Addr) (ctv : Value), v = .ref a ∧ H a = some (FunO a (PySem.W.kla_obj "<lambda>" q params bd scope cl pm c' ctv)) := by
  cases x with
  | ref k =>
    simp only [isClo] at h
    obtain ⟨a, h1, rfl⟩ := rep_ref hx
    obtain ⟨o, h2, h3⟩ := r.obj k a h1
    rw [h2] at h
    cases o with
    | clo np nf ns body cs =>
      obtain ⟨q, params, bd, scope, cl, pm, c', ctv, N, fr, n, h4, _⟩ := h3
      exact ⟨a, q, params, bd, scope, cl, pm, c', ctv, rfl, h4⟩
    | _ => cases h
  | _ => cases h
theorem fnAt_of {pins : List (Addr × Obj)} {s0 : Shared} {a : Addr} {q : Str} {params : Arguments} {bd : Expr} {scope : Scope} {cl : List (Str × Addr)} {pm : Value} {c' : Addr} {ctv : Value} (I : Inv X pins σ H s0) (h : H a = some (FunO a (PySem.W.kla_obj "<lambda>" q params bd scope cl pm c' ctv))) :
    s0.heap.get? a = some (PySem.W.kla_obj "<lambda>" q params bd scope cl pm c' ctv) := (I.hok a _ h).1
theorem st_ca (zo : Zok Z) (hval : ValP Z d cV) (ih : IHE Z d cF cV n) (G : Gd Z d C X) (tk : Takes X W) {f : Expr} {es : List Expr} {kws : List Keyword} {c : E} {pos : Pos}
    (h : trCall (n + 1) C f es kws pos = some c) : PE X (.Call f es kws pos) (tEv Z C.cs X W (evE cF cV c)) := by
  unfold trCall at h
  split at h
  · rename_i x p
    cases h0 : C.slot x with
    | some i =>
      simp only [h0] at h
      split at h
      · cases h1 : trL n C es with
        | none => rw [h1] at h; cases h
        | some as =>
          rw [h1] at h
          cases h
          have pv := pe_var_of (W := W) (cF := cF) (cV := cV) (p := p) G h0
          have pa := ih.pa C X W G tk es as h1
          refine ⟨fun pins s0 σ H Q I ⟨g, en, s, r, e, hq⟩ => ?_⟩
          have hq : Fin Z W σ g H s ((evE cF cV (.var i) en s).bind fun x s => bif isClo s x then (evEs cF cV as en s).bind fun ws s => cV x ws s else .bad) (KV Q) := hq
          refine wpAny_Call_Name_kw (L2.thn (pv.run pins s0 σ H _ I (tEv_seq r e hq fun v H1 x s1 g1 r1 e1 a1 hx q1 => show ∃ x s1 g1, RelS Z g1 H1 s1 ∧ RelE C.cs X g1 H1 σ en s1 ∧ Rep g1.φ H1 x v ∧ Fin Z W σ g1 H1 s1 (bif isClo s1 x then (evEs cF cV as en s1).bind fun ws s => cV x ws s else .bad) (KV Q) from ⟨x, s1, g1, r1, e1, hx, q1⟩)) fun u s1 ⟨v, H1, I1, rv, x, sc, g1, r1, e1, hx, q1⟩ => ?_)
          obtain ⟨hc, q1⟩ := fin_guard q1
          obtain ⟨a, q, params, bd, scope, cl, pm, c', ctv, rfl, hH⟩ := isClo_is r1 hc hx
          obtain rfl : u = Value.ref a := rv
          cases es with
          | nil =>
            have : as = .nil := by
              cases n with
              | zero => unfold trL at h1; cases h1
              | succ n => unfold trL at h1; cases h1; rfl
            subst this
            refine PySem.W.callWith_F0 ⟨_, _, _, _, fnAt_of I1 hH⟩ ?_
            exact hval C X W G tk pins s1 σ H1 x (.ref a) (.ref a) [] [] Q g1 en sc [] I1 rfl hx .nil r1 e1 reps_nil q1
          | cons a0 es =>
            obtain ⟨hs, hpl⟩ := starL_of h1 X.env pos
            refine PySem.W.callWith_F ⟨_, _, _, _, fnAt_of I1 hH⟩ (L2.thn (pa.run pos pins s1 σ H1 _ I1 (tAv_seq r1 e1 q1 fun vs H2 ws s2 g2 r2 e2 a2 hw q2 => show ∃ ws s2 g2, RelS Z g2 H2 s2 ∧ RelE C.cs X g2 H2 σ en s2 ∧ Rep g2.φ H2 x (.ref a) ∧ H2 a = some (FunO a (PySem.W.kla_obj "<lambda>" q params bd scope cl pm c' ctv)) ∧ Reps g2.φ H2 ws vs ∧ Fin Z W σ g2 H2 s2 (cV x ws s2) (KV Q) from ⟨ws, s2, g2, r2, e2, a2.rep hx, a2.fix _ _ hH trivial, hw, q2⟩)) fun us s2 ⟨vs, H2, I2, rv2, ws, sc2, g2, r2, e2, hx2, hH2, hw, q2⟩ => ⟨⟨_, _, _, _, fnAt_of I2 hH2⟩, ?_⟩) hs hpl
            exact hval C X W G tk pins s2 σ H2 x (.ref a) (.ref a) us vs Q g2 en sc2 ws I2 rfl hx2 rv2 r2 e2 hw q2
      · cases h
    | none =>
      simp only [h0] at h
      cases hg : isGl C x with
      | false => rw [hg] at h; cases h
      | true =>
        rw [hg] at h
        simp only [cond_true] at h
        cases h1 : C.T.fns.findIdx? (fun p => p.1 == x) with
        | some f =>
          simp only [h1] at h
          exact ih.df C X W G tk x p f es kws c pos hg h1 h
        | none =>
          simp only [h1] at h
          cases hb : (isBu C x && kws.isEmpty) with
          | false => rw [hb] at h; cases h
          | true =>
            rw [hb] at h
            simp only [Bool.and_eq_true, List.isEmpty_iff] at hb
            obtain ⟨hb, rfl⟩ := hb
            exact ih.bu C X W G tk x p es c pos hb h
  · rename_i a m ap
    split at h
    · cases hc : (ap.endLine == pos.line && !isCall0 a) with
      | false => rw [hc] at h; cases h
      | true =>
        rw [hc] at h
        simp only [Bool.and_eq_true, Bool.not_eq_true'] at hc
        obtain ⟨hl, hb⟩ := hc
        cases h1 : trE n C a with
        | none => simp only [h1] at h; cases h
        | some ca =>
          cases h2 : trMe m es.length with
          | none => simp only [h1, h2] at h; cases h
          | some mm =>
            cases h3 : trL n C es with
            | none => simp only [h1, h2, h3] at h; cases h
            | some as =>
              simp only [h1, h2, h3] at h
              cases h
              have pv := (ih.pe C X W G tk a ca h1).1
              have pa := ih.pa C X W G tk es as h3
              have body : ∀ {Q : VK} {σ : L2.St} {H : Hp}, tEv Z C.cs X W (evE cF cV (.me mm ca as)) σ H Q → tEv Z C.cs X W (evE cF cV ca) σ H (fun v H1 => L2.tyV X.K "list" v H1 ∧ tAv Z C.cs X W (evEs cF cV as) σ H1 (fun vs H2 => vs.length = es.length ∧ rMe mm es.length v vs H2 Q)) := by
                intro Q σ H ⟨g, en, s, r, e, q⟩
                refine tEv_seq r e q fun v H1 x s1 g1 r1 e1 a1 hx q1 => ?_
                obtain ⟨hc, q1⟩ := fin_guard q1
                refine ⟨isLst_is r1 hc hx, tAv_seqL r1 e1 q1 fun vs H2 ws s2 g2 hlen r2 e2 a2 hw q2 => ?_⟩
                have l1 : ws.length = es.length := by rw [evEs_len hlen, trL_len h3]
                exact ⟨by rw [← hw.len, l1], by rw [← l1]; exact me_is r2 (a2.rep hx) hw q2⟩
              unfold trMe at h2
              cases c1 : (m == ("append" : Str) && Nat.beq es.length 1) with
              | true =>
                rw [c1] at h2
                cases h2
                simp only [Bool.and_eq_true] at c1
                have hm := name_is c1.1
                subst hm
                have hl1 := Nat.eq_of_beq_eq_true c1.2
                cases es with
                | nil => cases hl1
                | cons e0 es =>
                  cases es with
                  | cons _ _ => cases hl1
                  | nil =>
                    obtain ⟨hs, hpl⟩ := starL_of h3 X.env pos
                    refine pe_imp (L2.pe_bm PySem.F.plainAttrs_list PySem.F.slot_list_append PySem.F.type_list_append L2.mt_append pv pa (base_of hb _ _ _) (by rw [hs] <;> rfl) hl hs hpl) fun σ H Q q => ?_
                    exact tEv_mono (body q) fun v H1 ⟨i1, i2⟩ => ⟨i1, by
                      obtain ⟨g, en, s, r, e, q⟩ := i2
                      exact ⟨g, en, s, r, e, q.mono fun a s' g' H' k vs hv => (k vs hv).2⟩⟩
              | false =>
                rw [c1] at h2
                simp only [cond_false] at h2
                cases c2 : (m == ("extend" : Str) && Nat.beq es.length 1) with
                | true =>
                  rw [c2] at h2
                  cases h2
                  simp only [Bool.and_eq_true] at c2
                  have hm := name_is c2.1
                  subst hm
                  have hl1 := Nat.eq_of_beq_eq_true c2.2
                  cases es with
                  | nil => cases hl1
                  | cons e0 es =>
                    cases es with
                    | cons _ _ => cases hl1
                    | nil =>
                      obtain ⟨hs, hpl⟩ := starL_of h3 X.env pos
                      refine pe_imp (L2.pe_bm PySem.F.plainAttrs_list PySem.F.slot_list_extend PySem.F.type_list_extend L2.mt_extend pv pa (base_of hb _ _ _) (by rw [hs] <;> rfl) hl hs hpl) fun σ H Q q => ?_
                      exact tEv_mono (body q) fun v H1 ⟨i1, i2⟩ => ⟨i1, by
                        obtain ⟨g, en, s, r, e, q⟩ := i2
                        exact ⟨g, en, s, r, e, q.mono fun a s' g' H' k vs hv => (k vs hv).2⟩⟩
                | false =>
                  rw [c2] at h2
                  simp only [cond_false] at h2
                  cases c3 : (m == ("pop" : Str) && Nat.ble es.length 1) with
                  | false => rw [c3] at h2; cases h2
                  | true =>
                    rw [c3] at h2
                    cases h2
                    simp only [Bool.and_eq_true] at c3
                    have hm := name_is c3.1
                    subst hm
                    have hl1 := Nat.le_of_ble_eq_true c3.2
                    cases es with
                    | nil =>
                      have : as = .nil := by
                        cases n with
                        | zero => unfold trL at h3; cases h3
                        | succ n => unfold trL at h3; cases h3; rfl
                      subst this
                      refine pe_imp (L2.pe_bm0 PySem.F.plainAttrs_list PySem.F.slot_list_pop PySem.F.type_list_pop L2.mt_pop pv (base_of hb _ _ _) hl) fun σ H Q q => ?_
                      exact tEv_mono (body q) fun v H1 ⟨i1, i2⟩ => ⟨i1, by
                        obtain ⟨g, en, s, r, e, q⟩ := i2
                        exact (fin_ok (K := KVs _) r q [] reps_nil).2⟩
                    | cons e0 es =>
                      cases es with
                      | cons _ _ => simp at hl1
                      | nil =>
                        obtain ⟨hs, hpl⟩ := starL_of h3 X.env pos
                        refine pe_imp (L2.pe_bm PySem.F.plainAttrs_list PySem.F.slot_list_pop PySem.F.type_list_pop L2.mt_popAt pv pa (base_of hb _ _ _) (by rw [hs] <;> rfl) hl hs hpl) fun σ H Q q => ?_
                        exact tEv_mono (body q) fun v H1 ⟨i1, i2⟩ => ⟨i1, by
                          obtain ⟨g, en, s, r, e, q⟩ := i2
                          exact ⟨g, en, s, r, e, q.mono fun a s' g' H' k vs hv => (k vs hv).2⟩⟩
    · cases h
  · cases h
end
end Ev
/-! EvG: stores to names; cells. -/
namespace Ev
open PySem PySem.Spec PyProof.Rows
open L2 (V HO Hp Cx Inv PE PT PA PS PSs PG PGs PI PW PO PK RelV Vals upd upd_same upd_ne SqL SqT TE TT TA TS TG TGs TI TO WX XK VK Room Takes EP)
section
variable {Z : Zx} {cs : List Nat} {W : WX} {X : Cx} {σ σ' : L2.St} {g g1 : Gh} {H H1 : Hp} {s s1 s' : S} {en en' : Env} {α β : Type} {K : PySem.W.Frag} {d n : Nat} {C : Ctx}
/-! ### the cells' states -/
theorem RelS.cells (r : RelS Z g H s) (hn : s'.n = s.n) (hh : s'.h = s.h) (hm : s'.m = s.m) (hc : ∀ c ow, s'.c.get c = some ow → c ∈ g.lv ∨ s.c.get c = some ow) (hi : ∀ c ow, s'.c.get c = some ow → c < s'.m) : RelS Z g H s' where
  n := by rw [hn]; exact r.n
  m := by rw [hm]; exact r.m
  inj := r.inj
  obj := fun k a e => by rw [hh]; exact r.obj k a e
  hi := fun k o e => by rw [hn]; exact r.hi k o (by rw [← hh]; exact e)
  cel := fun c a ow h1 h2 h3 => r.cel c a ow h1 ((hc c ow h2).resolve_left h3) h3
  chi := hi
  cin := fun c c' a ow ow' h1 h2 h3 h4 h5 h6 => r.cin c c' a ow ow' h1 h2 ((hc c ow h3).resolve_left h5) ((hc c' ow' h4).resolve_left h6) h5 h6
  tab := r.tab
/-- new cells, all live -/
theorem RelS.more (r : RelS Z g H s) {as : List Addr} (hn : s'.n = s.n) (hh : s'.h = s.h) (hm : s'.m = s.m + as.length) (hc : ∀ c, s'.c.get c = if s.m ≤ c ∧ c < s.m + as.length then some none else s.c.get c) :
    RelS Z { g with ψ := g.ψ ++ as, lv := g.lv ++ List.range' s.m as.length } H s' where
  n := by rw [hn]; exact r.n
  m := by simp only [List.length_append, hm, r.m]
  inj := r.inj
  obj := fun k a e => by
    rw [hh]
    obtain ⟨o, h1, h2⟩ := r.obj k a e
    exact ⟨o, h1, h2.mono ⟨[], by simp⟩ ⟨as, rfl⟩ (fun _ _ e _ => e) rfl⟩
  hi := fun k o e => by rw [hn]; exact r.hi k o (by rw [← hh]; exact e)
  cel := fun c a ow h1 h2 h3 => by
    have h3 : c ∉ g.lv ++ List.range' s.m as.length := h3
    have h1 : (g.ψ ++ as)[c]? = some a := h1
    rw [List.mem_append, List.mem_range'_1] at h3
    rw [hc] at h2
    rw [if_neg fun z => h3 (.inr z)] at h2
    have hlt := r.chi c ow h2
    rw [List.getElem?_append_left (by rw [r.m]; exact hlt)] at h1
    exact r.cel c a ow h1 h2 fun z => h3 (.inl z)
  chi := fun c ow h => by
    rw [hc] at h
    rw [hm]
    by_cases hb : s.m ≤ c ∧ c < s.m + as.length
    · exact hb.2
    · rw [if_neg hb] at h
      have := r.chi c ow h
      omega
  cin := by
    have key : ∀ c a ow, (g.ψ ++ as)[c]? = some a → s'.c.get c = some ow → c ∉ g.lv ++ List.range' s.m as.length → g.ψ[c]? = some a ∧ s.c.get c = some ow ∧ c ∉ g.lv := fun c a ow h1 h2 h3 => by
      rw [List.mem_append, List.mem_range'_1] at h3
      rw [hc] at h2
      rw [if_neg fun z => h3 (.inr z)] at h2
      rw [List.getElem?_append_left (by rw [r.m]; exact r.chi c ow h2)] at h1
      exact ⟨h1, h2, fun z => h3 (.inl z)⟩
    intro c c' a ow ow' h1 h2 h3 h4 h5 h6
    obtain ⟨i1, i2, i3⟩ := key c a ow h1 h3 h5
    obtain ⟨j1, j2, j3⟩ := key c' a ow' h2 h4 h6
    exact r.cin c c' a ow ow' i1 j1 i2 j2 i3 j3
  tab := r.tab
/-- cells that are forgotten are live no more -/
theorem RelS.less (r : RelS Z g H s) {lv : List Nat} (hd : ∀ c ∈ g.lv, c ∉ lv → s.c.get c = none) : RelS Z { g with lv := lv } H s where
  n := r.n
  m := r.m
  inj := r.inj
  obj := fun k a e => by
    obtain ⟨o, h1, h2⟩ := r.obj k a e
    exact ⟨o, h1, h2.mono ⟨[], by simp⟩ ⟨[], by simp⟩ (fun _ _ e _ => e) rfl⟩
  hi := r.hi
  cel := fun c a ow h1 h2 h3 => r.cel c a ow h1 h2 fun z => by rw [hd c z h3] at h2; cases h2
  chi := r.chi
  cin := fun c c' a ow ow' h1 h2 h3 h4 h5 h6 => r.cin c c' a ow ow' h1 h2 h3 h4 (fun z => by rw [hd c z h5] at h3; cases h3) fun z => by rw [hd c' z h6] at h4; cases h4
  tab := r.tab
theorem newCells_is : ∀ (is : List Nat) (ce : List (Option Nat)) (s : S), is.Nodup → (∀ i ∈ is, i < ce.length) →
    (newCells ce s is).1.length = ce.length ∧ (∀ i, i ∉ is → (newCells ce s is).1[i]? = ce[i]?) ∧ (∀ (k i : Nat), is[k]? = some i → (newCells ce s is).1[i]? = some (some (s.m + k))) ∧
    (newCells ce s is).2.n = s.n ∧ (newCells ce s is).2.h = s.h ∧ (newCells ce s is).2.m = s.m + is.length ∧ ∀ c, (newCells ce s is).2.c.get c = if s.m ≤ c ∧ c < s.m + is.length then some none else s.c.get c
  | [], ce, s, _, _ => ⟨rfl, fun _ _ => rfl, fun k i h => by simp at h, rfl, rfl, rfl, fun c => by
      rw [if_neg (by simp only [List.length_nil]; omega)] <;> rfl⟩
  | i :: r, ce, s, hn, hl => by
    obtain ⟨hi, hn'⟩ := List.nodup_cons.mp hn
    obtain ⟨h1, h2, h3, h4, h5, h6, h7⟩ := newCells_is r (ce.set i (some s.m)) { s with m := s.m + 1, c := s.c.put s.m (some none) } hn' (fun j hj => by rw [List.length_set]; exact hl j (List.mem_cons_of_mem _ hj))
    unfold newCells
    refine ⟨by rw [h1, List.length_set], fun j hj => ?_, fun k j hk => ?_, h4, h5, by rw [h6, List.length_cons]; show s.m + 1 + _ = _; omega, fun c => ?_⟩
    · rw [h2 j fun z => hj (List.mem_cons_of_mem _ z), List.getElem?_set_ne fun z => hj (by rw [z]; exact List.mem_cons_self)]
    · cases k with
      | zero =>
        simp at hk
        subst hk
        rw [h2 i hi, List.getElem?_set_self (hl i List.mem_cons_self)] <;> rfl
      | succ k =>
        rw [h3 k j (by simpa using hk)]
        show some (some (s.m + 1 + k)) = _
        rw [Nat.add_assoc, Nat.add_comm 1 k]
    · rw [h7 c]
      show (if s.m + 1 ≤ c ∧ c < s.m + 1 + r.length then some none else (s.c.put s.m (some none)).get c) = _
      rw [Tr.get_put, List.length_cons]
      by_cases hc : c = s.m
      · rw [if_neg (by omega), if_pos hc, if_pos (by omega)]
      · rw [if_neg hc]
        by_cases hb : s.m + 1 ≤ c ∧ c < s.m + 1 + r.length
        · rw [if_pos hb, if_pos (by omega)]
        · rw [if_neg hb, if_neg (by omega)]
theorem resetCells_is : ∀ (is : List Nat) (ce : List (Option Nat)) (s : S), (resetCells ce s is).n = s.n ∧ (resetCells ce s is).h = s.h ∧ (resetCells ce s is).m = s.m ∧
    (∀ c, (∃ i ∈ is, ce[i]? = some (some c)) → (resetCells ce s is).c.get c = some none) ∧ ∀ c, (¬ ∃ i ∈ is, ce[i]? = some (some c)) → (resetCells ce s is).c.get c = s.c.get c
  | [], ce, s => ⟨rfl, rfl, rfl, fun c ⟨i, h, _⟩ => by simp at h, fun c _ => rfl⟩
  | i :: r, ce, s => by
    unfold resetCells
    cases e : ce[i]? with
    | none =>
      obtain ⟨h1, h2, h3, h4, h5⟩ := resetCells_is r ce s
      refine ⟨h1, h2, h3, fun c ⟨j, hj, hc⟩ => ?_, fun c hc => h5 c fun ⟨j, hj, h⟩ => hc ⟨j, List.mem_cons_of_mem _ hj, h⟩⟩
      rcases List.mem_cons.mp hj with rfl | hj
      · rw [e] at hc; cases hc
      · exact h4 c ⟨j, hj, hc⟩
    | some o =>
      cases o with
      | none =>
        obtain ⟨h1, h2, h3, h4, h5⟩ := resetCells_is r ce s
        refine ⟨h1, h2, h3, fun c ⟨j, hj, hc⟩ => ?_, fun c hc => h5 c fun ⟨j, hj, h⟩ => hc ⟨j, List.mem_cons_of_mem _ hj, h⟩⟩
        rcases List.mem_cons.mp hj with rfl | hj
        · rw [e] at hc; cases hc
        · exact h4 c ⟨j, hj, hc⟩
      | some c0 =>
        obtain ⟨h1, h2, h3, h4, h5⟩ := resetCells_is r ce { s with c := s.c.put c0 (some none) }
        refine ⟨h1, h2, h3, fun c ⟨j, hj, hc⟩ => ?_, fun c hc => ?_⟩
        · by_cases hr : ∃ j ∈ r, ce[j]? = some (some c)
          · exact h4 c hr
          · rw [h5 c hr]
            rcases List.mem_cons.mp hj with rfl | hj
            · rw [e] at hc
              cases hc
              exact Tr.get_put_same _ _ _
            · exact absurd ⟨j, hj, hc⟩ hr
        · rw [h5 c fun ⟨j, hj, h⟩ => hc ⟨j, List.mem_cons_of_mem _ hj, h⟩]
          exact Tr.get_put_ne _ _ fun z => hc ⟨i, List.mem_cons_self, by rw [e, z]⟩
theorem dropCells_is : ∀ (is : List Nat) (ce : List (Option Nat)) (s : S), (dropCells ce s is).n = s.n ∧ (dropCells ce s is).h = s.h ∧ (dropCells ce s is).m = s.m ∧
    (∀ c, (∃ i ∈ is, ce[i]? = some (some c)) → (dropCells ce s is).c.get c = none) ∧ ∀ c, (¬ ∃ i ∈ is, ce[i]? = some (some c)) → (dropCells ce s is).c.get c = s.c.get c
  | [], ce, s => ⟨rfl, rfl, rfl, fun c ⟨i, h, _⟩ => by simp at h, fun c _ => rfl⟩
  | i :: r, ce, s => by
    unfold dropCells
    cases e : ce[i]? with
    | none =>
      obtain ⟨h1, h2, h3, h4, h5⟩ := dropCells_is r ce s
      refine ⟨h1, h2, h3, fun c ⟨j, hj, hc⟩ => ?_, fun c hc => h5 c fun ⟨j, hj, h⟩ => hc ⟨j, List.mem_cons_of_mem _ hj, h⟩⟩
      rcases List.mem_cons.mp hj with rfl | hj
      · rw [e] at hc; cases hc
      · exact h4 c ⟨j, hj, hc⟩
    | some o =>
      cases o with
      | none =>
        obtain ⟨h1, h2, h3, h4, h5⟩ := dropCells_is r ce s
        refine ⟨h1, h2, h3, fun c ⟨j, hj, hc⟩ => ?_, fun c hc => h5 c fun ⟨j, hj, h⟩ => hc ⟨j, List.mem_cons_of_mem _ hj, h⟩⟩
        rcases List.mem_cons.mp hj with rfl | hj
        · rw [e] at hc; cases hc
        · exact h4 c ⟨j, hj, hc⟩
      | some c0 =>
        obtain ⟨h1, h2, h3, h4, h5⟩ := dropCells_is r ce { s with c := s.c.put c0 none }
        refine ⟨h1, h2, h3, fun c ⟨j, hj, hc⟩ => ?_, fun c hc => ?_⟩
        · by_cases hr : ∃ j ∈ r, ce[j]? = some (some c)
          · exact h4 c hr
          · rw [h5 c hr]
            rcases List.mem_cons.mp hj with rfl | hj
            · rw [e] at hc
              cases hc
              exact Tr.get_put_same _ _ _
            · exact absurd ⟨j, hj, hc⟩ hr
        · rw [h5 c fun ⟨j, hj, h⟩ => hc ⟨j, List.mem_cons_of_mem _ hj, h⟩]
          exact Tr.get_put_ne _ _ fun z => hc ⟨i, List.mem_cons_self, by rw [e, z]⟩

/-! ### stores -/
mutual
def slotsNt : Nt → List Nat
  | .v i => [i]
  | .t l => slotsNts l
def slotsNts : List Nt → List Nat
  | [] => []
  | t :: r => slotsNt t ++ slotsNts r
end
/-- the names that a target may store to -/
def Stores (X : Cx) (C : Ctx) : Prop := ∀ x i, C.slotW x = some i → X.N[i]? = some x ∧ L2.Loc X.env.scope x ∧ (X.fn x = true ∨ X.env.scope.names.lookup x = some .local)
/-- the cells at the slots l -/
def cellsL (ce : List (Option Nat)) (l : List Nat) : List Nat := l.filterMap fun i => (ce[i]?).join
theorem mem_cellsL {ce : List (Option Nat)} {l : List Nat} {i c : Nat} (hi : i ∈ l) (h : ce[i]? = some (some c)) : c ∈ cellsL ce l := List.mem_filterMap.mpr ⟨i, hi, by rw [h] <;> rfl⟩
theorem of_cellsL {ce : List (Option Nat)} {l : List Nat} {c : Nat} (h : c ∈ cellsL ce l) : ∃ i ∈ l, ce[i]? = some (some c) := by
  obtain ⟨i, hi, h⟩ := List.mem_filterMap.mp h
  refine ⟨i, hi, ?_⟩
  cases e : ce[i]? with
  | none => rw [e] at h; cases h
  | some o => rw [e] at h; exact congrArg some h
/-- a slot is stored to -/
theorem RelE.put (r : RelS Z g H s) (e : RelE cs X g H σ en s) {i : Nat} {w : D} {v : V} (h : en.put i w s = .ok en' s') (hi : i < X.N.length) (hv : Rep g.φ H w v) (hs : σ.length = X.N.length) (hinj : ∀ (i j c : Nat), en.ce[i]? = some (some c) → en.ce[j]? = some (some c) → i = j) :
    RelS Z g H s' ∧ RelE cs X g H (σ.set i (some v)) en' s' ∧ After (cellsL en.ce [i]) g H s g H s' ∧ en'.ce = en.ce := by
  have key : ∀ c', en'.σ = en.σ.set i (some w) → en'.ce = en.ce → (∀ c, (en.ce[i]? = some (some c) → c'.get c = some (some w)) ∧ (en.ce[i]? ≠ some (some c) → c'.get c = s.c.get c)) →
      RelE cs X g H (σ.set i (some v)) en' { s with c := c' } := fun c' h1 h2 h3 => by
    refine ⟨by rw [h1, List.length_set]; exact e.len, by rw [h2]; exact e.cen, fun j x hj => ?_, fun j c hj => ?_, fun c hc => by rw [h2]; exact e.live c hc⟩
    · rw [h1] at hj
      by_cases hij : i = j
      · subst hij
        rw [List.getElem?_set_self (by rw [e.len]; exact hi)] at hj
        cases hj
        exact ⟨v, List.getElem?_set_self (by rw [hs]; exact hi), hv⟩
      · rw [List.getElem?_set_ne hij] at hj
        obtain ⟨u, i1, i2⟩ := e.slot j x hj
        exact ⟨u, by rw [List.getElem?_set_ne hij]; exact i1, i2⟩
    · rw [h2] at hj
      obtain ⟨x, a, i1, i2, i3, i4, i5⟩ := e.cell j c hj
      refine ⟨x, a, i1, i2, i3, ?_, i5⟩
      show c'.get c = _
      rw [h1]
      by_cases hij : i = j
      · subst hij
        rw [(h3 c).1 hj, List.getElem?_set_self (by rw [e.len]; exact hi)] <;> rfl
      · rw [(h3 c).2 fun z => hij (hinj i j c z hj), List.getElem?_set_ne hij]
        exact i4
  unfold Env.put at h
  split at h
  · rename_i c0 hc
    cases h
    refine ⟨r.cells rfl rfl rfl (fun c ow q => ?_) (fun c ow q => ?_), key _ rfl rfl fun c => ⟨fun z => ?_, fun z => ?_⟩, ⟨⟨[], by simp⟩, ⟨[], by simp⟩, rfl, fun _ _ q _ => q, fun _ _ q _ _ => q, fun _ q => q, fun _ q => .inl q, Nat.le_refl _, fun c _ hl => ?_⟩, rfl⟩
    · by_cases hcc : c = c0
      · subst hcc
        obtain ⟨_, _, _, _, _, _, i5, _⟩ := e.cell i c hc
        exact .inl i5
      · have q : (s.c.put c0 (some (some w))).get c = some ow := q
        rw [Tr.get_put_ne _ _ hcc] at q
        exact .inr q
    · have q : (s.c.put c0 (some (some w))).get c = some ow := q
      by_cases hcc : c = c0
      · subst hcc
        obtain ⟨_, _, _, _, i3, _⟩ := e.cell i c hc
        show c < s.m
        rw [← r.m]
        exact (List.getElem?_eq_some_iff.mp i3).1
      · rw [Tr.get_put_ne _ _ hcc] at q
        exact r.chi c ow q
    · rw [hc] at z
      cases z
      exact Tr.get_put_same _ _ _
    · exact Tr.get_put_ne _ _ fun q => z (by rw [hc, q])
    · refine Tr.get_put_ne _ _ fun q => hl ?_
      subst q
      exact mem_cellsL List.mem_cons_self hc
  · rename_i hc
    cases h
    exact ⟨r, key s.c rfl rfl fun c => ⟨(fun z => by rw [hc] at z; cases z), fun _ => rfl⟩, After.refl _ _ _ _, rfl⟩
  · cases h
theorem RelE.inj (e : RelE cs X g H σ en s) (ok : X.Ok) (nd : X.N.Nodup) : ∀ (i j c : Nat), en.ce[i]? = some (some c) → en.ce[j]? = some (some c) → i = j := fun i j c h1 h2 => by
  obtain ⟨x, a, i1, i2, i3, _⟩ := e.cell i c h1
  obtain ⟨y, b, j1, j2, j3, _⟩ := e.cell j c h2
  rw [i3] at j3
  cases j3
  have := ok.inj x y a i2 j2
  subst this
  exact L2.nodup_ix nd i1 j1
/-- what differs alone at the slots l -/
def Off (l : List Nat) (σ σ' : L2.St) : Prop := σ'.length = σ.length ∧ ∀ i, i ∉ l → σ'[i]? = σ[i]?
theorem Off.refl (l : List Nat) (σ : L2.St) : Off l σ σ := ⟨rfl, fun _ _ => rfl⟩
theorem Off.trans {l l' : List Nat} {σ'' : L2.St} (a : Off l σ σ') (b : Off l' σ' σ'') : Off (l ++ l') σ σ'' :=
  ⟨b.1.trans a.1, fun i hi => (b.2 i fun z => hi (List.mem_append_right _ z)).trans (a.2 i fun z => hi (List.mem_append_left _ z))⟩
/-- the reading of a store to names -/
def gNt (Z : Zx) (cs : List Nat) (X : Cx) (t : Nt) : TG := fun v σ H Q => ∃ g en s w en' s', σ.length = X.N.length ∧ (∀ (i j c : Nat), en.ce[i]? = some (some c) → en.ce[j]? = some (some c) → i = j) ∧ RelS Z g H s ∧ RelE cs X g H σ en s ∧ Rep g.φ H w v ∧ putNt en s t w = .ok en' s' ∧
  ∀ σ', RelS Z g H s' → RelE cs X g H σ' en' s' → After (cellsL en.ce (slotsNt t)) g H s g H s' → en'.ce = en.ce → Off (slotsNt t) σ σ' → Q σ' H
def gNts (Z : Zx) (cs : List Nat) (X : Cx) (t : List Nt) : TGs := fun vs σ H Q => ∃ g en s ws en' s', σ.length = X.N.length ∧ (∀ (i j c : Nat), en.ce[i]? = some (some c) → en.ce[j]? = some (some c) → i = j) ∧ RelS Z g H s ∧ RelE cs X g H σ en s ∧ Reps g.φ H ws vs ∧ putNts en s t ws = .ok en' s' ∧
  ∀ σ', RelS Z g H s' → RelE cs X g H σ' en' s' → After (cellsL en.ce (slotsNts t)) g H s g H s' → en'.ce = en.ce → Off (slotsNts t) σ σ' → Q σ' H
theorem pg_imp {e : Expr} {t t' : TG} (h : PG X e t) (hi : ∀ v σ H Q, t' v σ H Q → t v σ H Q) : PG X e t' := ⟨fun pins s σ H v u Q I r hw => h.run pins s σ H v u Q I r (hi _ _ _ _ hw)⟩
theorem pgs_imp {e : List Expr} {t t' : TGs} (h : PGs X e t) (hi : ∀ v σ H Q, t' v σ H Q → t v σ H Q) : PGs X e t' := ⟨fun pins s σ H v u Q I r hw => h.run pins s σ H v u Q I r (hi _ _ _ _ hw)⟩
theorem bind_ok_of {r : R α} {f : α → S → R β} {b : β} {s' : S} (h : r.bind f = .ok b s') : ∃ a s1, r = .ok a s1 ∧ f a s1 = .ok b s' := by
  cases r with
  | ok a s1 => exact ⟨a, s1, rfl, h⟩
  | ex _ _ _ => cases h
  | bad => cases h
theorem putNts_len : ∀ {l : List Nt} {ws : List D} {en en' : Env} {s s' : S}, putNts en s l ws = .ok en' s' → ws.length = l.length
  | [], [], _, _, _, _, _ => rfl
  | [], _ :: _, _, _, _, _, h => by unfold putNts at h; cases h
  | _ :: _, [], _, _, _, _, h => by unfold putNts at h; cases h
  | t :: l, w :: ws, en, en', s, s', h => by
    unfold putNts at h
    obtain ⟨e1, s1, _, h2⟩ := bind_ok_of h
    simp [putNts_len h2]
def noStar : Expr → Bool
  | .Starred .. => false
  | _ => true
theorem asg_cons {e : Expr} (h : noStar e = true) (es : List Expr) (env : PySem.Env) : assignEach (e :: es) env = (false, assign e env) :: assignEach es env := by
  cases e <;> first | rfl | cases h
theorem asg_all : ∀ {es : List Expr}, (∀ e ∈ es, noStar e = true) → ∀ env : PySem.Env, (assignEach es env).length = es.length ∧ (assignEach es env).findIdx? (·.1) = none
  | [], _, _ => ⟨rfl, rfl⟩
  | e :: es, h, env => by
    obtain ⟨h1, h2⟩ := asg_all (fun a ha => h a (List.mem_cons_of_mem _ ha)) env
    rw [asg_cons (h e List.mem_cons_self)]
    refine ⟨by simp [h1], ?_⟩
    rw [List.findIdx?_cons, h2] <;> rfl
theorem nt_noStar {C : Ctx} {n : Nat} {e : Expr} {t : Nt} (h : trNt C n e = some t) : noStar e = true := by
  cases n with
  | zero => unfold trNt at h; cases h
  | succ n => cases e <;> first | rfl | (unfold trNt at h; cases h)
theorem mapO_all {f : α → Option β} : ∀ {as : List α} {bs : List β}, mapO f as = some bs → ∀ a ∈ as, ∃ b, f a = some b
  | [], _, _, a, ha => by cases ha
  | x :: as, bs, h, a, ha => by
    obtain ⟨b, cs, h1, h2, rfl⟩ := mapO_cons h
    rcases List.mem_cons.mp ha with rfl | ha
    · exact ⟨b, h1⟩
    · exact mapO_all h2 a ha
theorem pg_nts (nd : X.N.Nodup) (C : Ctx) (n : Nat) (ih : ∀ e t, trNt C n e = some t → PG X e (gNt Z cs X t)) : ∀ (es : List Expr) (ts : List Nt), mapO (trNt C n) es = some ts → PGs X es (gNts Z cs X ts) ∧ ts.length = es.length
  | [], ts, h => by
    cases h
    refine ⟨pgs_imp L2.pgs_nil fun vs σ H Q ⟨g, en, s, ws, en', s', l, hj, r, e, hv, h, q⟩ => ?_, rfl⟩
    cases ws with
    | cons _ _ => unfold putNts at h; cases h
    | nil =>
      unfold putNts at h
      cases h
      exact ⟨hv.nil_of, q σ r e (After.refl _ _ _ _) rfl (Off.refl _ _)⟩
  | e :: es, ts, h => by
    obtain ⟨t, ts', h1, h2, rfl⟩ := mapO_cons h
    obtain ⟨p1, p2⟩ := pg_nts nd C n ih es ts' h2
    refine ⟨pgs_imp (L2.pgs_cons (ih e t h1) p1 (by rw [asg_cons (nt_noStar h1)] <;> rfl)) fun vs σ H Q ⟨g, en, s, ws, en', s', l, hj, r, e0, hv, h, q⟩ => ?_, by simp [p2]⟩
    cases ws with
    | nil => unfold putNts at h; cases h
    | cons w ws =>
      unfold putNts at h
      obtain ⟨e1, s1, q1, q2⟩ := bind_ok_of h
      obtain ⟨v, us, rfl, hv1, hv2⟩ := hv.cons_of
      refine ⟨v, us, rfl, g, en, s, w, e1, s1, l, hj, r, e0, hv1, q1, fun σ1 r1 i1 a1 c1 o1 => ?_⟩
      refine ⟨g, e1, s1, ws, en', s', o1.1.trans l, fun i j c => by rw [c1]; exact hj i j c, r1, i1, hv2, q2, fun σ2 r2 i2 a2 c2 o2 => ?_⟩
      refine q σ2 r2 i2 ((a1.up fun c hc => ?_).trans (a2.up fun c hc => ?_)) (c2.trans c1) (o1.trans o2)
      · obtain ⟨i, hi, h⟩ := of_cellsL hc
        exact mem_cellsL (List.mem_append_left _ hi) h
      · rw [c1] at hc
        obtain ⟨i, hi, h⟩ := of_cellsL hc
        exact mem_cellsL (List.mem_append_right _ hi) h
theorem pg_nt (nd : X.N.Nodup) (hc : X.calm = true) {C : Ctx} (st : Stores X C) : ∀ (n : Nat) (e : Expr) (t : Nt), trNt C n e = some t → PG X e (gNt Z cs X t)
  | 0, e, t, h => by unfold trNt at h; cases h
  | n + 1, e, t, h => by
    unfold trNt at h
    split at h
    · rename_i x p
      cases h1 : C.slotW x with
      | none => rw [h1] at h; cases h
      | some i =>
        rw [h1] at h
        cases h
        obtain ⟨i1, i2, i3⟩ := st x i h1
        refine pg_imp (L2.pg_name nd i1 i2 i3) fun v σ H Q ⟨g, en, s, w, en', s', l, hj, r, e, hv, h, q⟩ => ?_
        unfold putNt at h
        have hi : i < X.N.length := (List.getElem?_eq_some_iff.mp i1).1
        obtain ⟨r1, e1, a1, c1⟩ := RelE.put r e h hi hv l hj
        have hs : slotsNt (.v i) = [i] := by rw [slotsNt]
        rw [hs] at q
        refine q _ r1 e1 a1 c1 ⟨List.length_set, fun j hj => List.getElem?_set_ne fun z => hj (by rw [z]; exact List.mem_singleton.mpr rfl)⟩
    · rename_i es k p
      cases h1 : mapO (trNt C n) es with
      | none => rw [h1] at h; cases h
      | some ts =>
        rw [h1] at h
        cases h
        obtain ⟨p1, p2⟩ := pg_nts nd C n (fun e t h => pg_nt nd hc st n e t h) es ts h1
        have na : ∀ e ∈ es, noStar e = true := fun e he => by
          obtain ⟨t, ht⟩ := mapO_all h1 e he
          exact nt_noStar ht
        refine pg_imp (L2.pg_tup hc p1 (n := es.length) (asg_all na X.env).1 (asg_all na X.env).2) fun v σ H Q ⟨g, en, s, w, en', s', l, hj, r, e, hv, h, q⟩ => ?_
        unfold putNt at h
        split at h
        · rename_i xs
          obtain ⟨a, vs, rfl, i1, i2⟩ := rep_tup hv
          refine ⟨a, vs, rfl, .inl (.inl i1), ?_, g, en, s, xs, en', s', l, hj, r, e, i2, h, fun σ' => ?_⟩
          · rw [← i2.len, putNts_len h, p2]
          · intro r1 e1 a1 c1 o1
            have hs : slotsNt (.t ts) = slotsNts ts := by rw [slotsNt]
            rw [hs] at q
            exact q σ' r1 e1 a1 c1 o1
        · cases h
    · cases h
end
end Ev
/-! EvG2: a comprehension's block. -/
namespace Ev
open PySem PySem.Spec PyProof.Rows
open L2 (V HO Hp Cx Inv PE PT PA PS PSs PG PGs PI PW PO PK RelV Vals upd upd_same upd_ne SqL SqT TE TT TA TS TG TGs TI TO WX XK VK Room Takes EP)
section
variable {Z : Zx} {cs : List Nat} {W : WX} {X : Cx} {σ σ' : L2.St} {g g1 g2 : Gh} {H H1 H2 : Hp} {s s1 s2 s' : S} {en en' : Env} {α β : Type} {K : PySem.W.Frag} {d n : Nat} {C : Ctx}
/-- the heap without what stands at D -/
def mask (D : Addr) (H : Hp) : Hp := fun b => if b = D then none else H b
theorem mask_at {D : Addr} {H : Hp} : mask D H D = none := by unfold mask; rw [if_pos rfl]
theorem mask_ne {D b : Addr} {H : Hp} (h : b ≠ D) : mask D H b = H b := by unfold mask; rw [if_neg h]
theorem mask_some {D b : Addr} {H : Hp} {u : HO} (h : mask D H b = some u) : b ≠ D ∧ H b = some u := by
  by_cases hb : b = D
  · rw [hb, mask_at] at h; cases h
  · exact ⟨hb, by rw [mask_ne hb] at h; exact h⟩
theorem mask_upd {D : Addr} {H : Hp} {u : HO} : mask D (upd H D u) = mask D H := by
  funext b
  by_cases hb : b = D
  · rw [hb, mask_at, mask_at]
  · rw [mask_ne hb, mask_ne hb, upd_ne hb]
theorem mask_new {D : Addr} {H : Hp} {u : HO} (h : H D = none) : mask D (upd H D u) = H := by
  rw [mask_upd]
  funext b
  by_cases hb : b = D
  · rw [hb, mask_at, h]
  · rw [mask_ne hb]
theorem After.mask {L : List Nat} {D : Addr} (a : After L g H s g1 H1 s1) : After L g (mask D H) s g1 (mask D H1) s1 where
  φ := a.φ
  ψ := a.ψ
  lv := a.lv
  fix := fun b u h f => by
    obtain ⟨h1, h2⟩ := mask_some h
    rw [mask_ne h1]
    exact a.fix b u h2 f
  oth := fun b u h n t => by
    obtain ⟨h1, h2⟩ := mask_some h
    rw [mask_ne h1]
    exact a.oth b u h2 n t
  dom := fun b h => by
    by_cases hb : b = D
    · rw [hb, mask_at]
    · rw [mask_ne hb] at h ⊢
      exact a.dom b h
  new := fun b hm => by
    rcases a.new b hm with h | h
    · exact .inl h
    · refine .inr ?_
      by_cases hb : b = D
      · rw [hb, mask_at]
      · rw [mask_ne hb]; exact h
  m := a.m
  cp := a.cp
/-- what stood aside is an object of ours from now on -/
theorem RelS.adopt (r : RelS Z g H s) {p : Addr} {ob0 : O} (hp : p ∉ g.φ) (ho : ObjR Z { g with φ := g.φ ++ [p] } H p ob0) :
    RelS Z { g with φ := g.φ ++ [p] } H { s with n := s.n + 1, h := s.h.put s.n (some ob0) } where
  n := by simp [r.n]
  m := r.m
  inj := fun i j a h1 h2 => by
    have key : ∀ (i : Nat), (g.φ ++ [p])[i]? = some p → i = g.φ.length := fun i h => by
      by_cases hi : i < g.φ.length
      · rw [List.getElem?_append_left hi] at h
        exact absurd (List.mem_of_getElem? h) hp
      · rw [List.getElem?_append_right (by omega)] at h
        have := (List.getElem?_eq_some_iff.mp h).1
        simp at this; omega
    by_cases ha : a = p
    · subst ha
      rw [key i h1, key j h2]
    · have low : ∀ (i : Nat), (g.φ ++ [p])[i]? = some a → g.φ[i]? = some a := fun i h => by
        by_cases hi : i < g.φ.length
        · rw [List.getElem?_append_left hi] at h; exact h
        · rw [List.getElem?_append_right (by omega)] at h
          cases e : i - g.φ.length with
          | zero => rw [e] at h; simp at h; exact absurd h.symm ha
          | succ n => rw [e] at h; simp at h
      exact r.inj i j a (low i h1) (low j h2)
  obj := fun k a e => by
    show ∃ o', (s.h.put s.n (some ob0)).get k = some o' ∧ _
    by_cases hk : k < g.φ.length
    · have e' : g.φ[k]? = some a := by
        have e : (g.φ ++ [p])[k]? = some a := e
        rw [List.getElem?_append_left hk] at e; exact e
      obtain ⟨ob, h1, h2⟩ := r.obj k a e'
      rw [Tr.get_put_ne _ _ (by rw [← r.n]; omega)]
      exact ⟨ob, h1, h2.mono ⟨[p], rfl⟩ ⟨[], by simp⟩ (fun b u e _ => e) rfl⟩
    · have : k = g.φ.length ∧ a = p := by
        have e : (g.φ ++ [p])[k]? = some a := e
        rw [List.getElem?_append_right (by omega)] at e
        cases q : k - g.φ.length with
        | zero => rw [q] at e; simp at e; exact ⟨by omega, e.symm⟩
        | succ n => rw [q] at e; simp at e
      obtain ⟨rfl, rfl⟩ := this
      rw [r.n, Tr.get_put_same]
      exact ⟨_, rfl, ho⟩
  hi := fun k o' e => by
    show k < s.n + 1
    by_cases hk : k = s.n
    · omega
    · have e : (s.h.put s.n (some ob0)).get k = some o' := e
      rw [Tr.get_put_ne _ _ hk] at e
      have := r.hi k o' e
      omega
  cel := fun c a ow h1 h2 h3 => (r.cel c a ow h1 h2 h3).mono ⟨[p], rfl⟩ (fun b u e _ => e)
  chi := r.chi
  cin := r.cin
  tab := r.tab
theorem wipe_get : ∀ (l : List Nat) (xs : List (Option D)) (i : Nat) (w : D), (wipe xs l)[i]? = some (some w) → xs[i]? = some (some w) ∧ i ∉ l
  | [], xs, i, w, h => ⟨h, by simp⟩
  | v :: l, xs, i, w, h => by
    unfold wipe at h
    by_cases hv : v = i
    · subst hv
      by_cases hl : v < (wipe xs l).length
      · rw [List.getElem?_set_self hl] at h; cases h
      · rw [List.getElem?_eq_none (by simpa using hl)] at h; cases h
    · rw [List.getElem?_set_ne hv] at h
      obtain ⟨h1, h2⟩ := wipe_get l xs i w h
      exact ⟨h1, by simp only [List.mem_cons, not_or]; exact ⟨fun z => hv z.symm, h2⟩⟩
theorem wipe_len : ∀ (l : List Nat) (xs : List (Option D)), (wipe xs l).length = xs.length
  | [], _ => rfl
  | v :: l, xs => by unfold wipe; rw [List.length_set, wipe_len l xs]
theorem wipe_off : ∀ (l : List Nat) (xs : List (Option D)) (i : Nat), i ∉ l → (wipe xs l)[i]? = xs[i]?
  | [], _, _, _ => rfl
  | v :: l, xs, i, h => by
    unfold wipe
    rw [List.getElem?_set_ne fun z => h (by rw [z]; exact List.mem_cons_self)]
    exact wipe_off l xs i fun z => h (List.mem_cons_of_mem _ z)
theorem wipe_on : ∀ (l : List Nat) (xs : List (Option D)) (i : Nat), i ∈ l → ((wipe xs l)[i]?).join = none := fun l xs i h => by
  cases e : (wipe xs l)[i]? with
  | none => rfl
  | some o =>
    cases o with
    | none => rfl
    | some w => exact absurd h (wipe_get l xs i w e).2
theorem wipeV_off : ∀ (l : List Nat) (xs : L2.St) (i : Nat), i ∉ l → (L2.wipe xs l)[i]? = xs[i]?
  | [], _, _, _ => rfl
  | v :: l, xs, i, h => by
    unfold L2.wipe
    rw [List.getElem?_set_ne fun z => h (by rw [z]; exact List.mem_cons_self)]
    exact wipeV_off l xs i fun z => h (List.mem_cons_of_mem _ z)

/-- the block's context is as good as the def's -/
theorem blk_gd (G : Gd Z d C X) {scope : Scope} (sh : Shared) (Hh : Hp) (L : Addr) (cl : List (Str × Addr)) (fp : List Addr) (hcf : ∀ x c, cl.lookup x = some c → X.base.get? c = none ∧ c ∉ L2.frs X.stack) : Gd Z d { C with sc := L2.relS scope C.sc } (X.blk sh Hh scope (compEnvC scope cl L X.env) fp) where
  P := G.P
  w := G.w
  K := G.K
  mg := G.mg
  base := G.base
  T := G.T
  N := G.N
  nd := G.nd
  sc := by
    show L2.relS scope X.env.scope = L2.relS scope C.sc
    rw [G.sc]
  calm := G.calm
  room := G.room
  cf := hcf
  lam := G.lam
/-- a block's cells: captured ones, new ones -/
theorem cellsFrom_new : ∀ (names : List (Str × NameKind)) (m : Nat) (acc : List (Str × Addr)) (x : Str) (c : Addr), (x, c) ∈ cellsFrom m names acc → (x, c) ∈ acc ∨ (m ≤ c ∧ (x, NameKind.cell) ∈ names)
  | [], _, _, _, _, h => .inl h
  | (y, k) :: r, m, acc, x, c, h => by
    unfold cellsFrom at h
    split at h
    · rename_i hk
      have hk : k = .cell := by simpa using hk
      subst hk
      rcases cellsFrom_new r (m + 1) _ x c h with h | ⟨h, h2⟩
      · rcases List.mem_cons.mp h with h | h
        · cases h; exact .inr ⟨Nat.le_refl _, List.mem_cons_self⟩
        · exact .inl h
      · exact .inr ⟨by omega, List.mem_cons_of_mem _ h2⟩
    · rcases cellsFrom_new r m acc x c h with h | ⟨h, h2⟩
      · exact .inl h
      · exact .inr ⟨h, List.mem_cons_of_mem _ h2⟩
theorem blk_cf (G : Gd Z d C X) {pins : List (Addr × Obj)} {s0 : Shared} {scope : Scope} (I : Inv X pins σ H s0) (hf : ∀ y ∈ scope.names, y.2 = .free → ∃ c, X.env.cells.lookup y.1 = some c) {m : Nat} (hm : s0.heap.objs.size ≤ m) :
    ∀ x c, (cellsFrom m scope.names (L2.cloFrom X.env.cells scope.names [])).lookup x = some c → X.base.get? c = none ∧ c ∉ L2.frs X.stack := fun x c h => by
  rcases cellsFrom_new _ _ _ _ _ (PySem.mem_of_lookup h) with h | ⟨h, _⟩
  · rcases L2.cloFrom_mem h with h | ⟨h1, h2⟩
    · cases h
    · obtain ⟨a, ha⟩ := hf _ h1 rfl
      have ha : X.env.cells.lookup x = some a := ha
      have : c = a := by rw [h2, ha] <;> rfl
      rw [this]
      exact G.cf x a ha
  · refine ⟨?_, fun hb => ?_⟩
    · cases q : X.base.get? c with
      | none => rfl
      | some o => exact absurd (Nat.lt_of_lt_of_le (Heap.lt_size (I.bk c o q)) (Nat.le_trans hm h)) (Nat.lt_irrefl _)
    · rcases List.mem_cons.mp (I.stkSub _ hb) with e | e
      · have h1 := I.lt
        rw [← e] at h1
        exact Nat.lt_irrefl _ (Nat.lt_of_lt_of_le h1 (Nat.le_trans hm h))
      · exact I.nofs (Nat.le_trans hm h) e
theorem findIdx_nd {N : List Str} (nd : N.Nodup) {x : Str} {i j : Nat} (h : N.findIdx? (· == x) = some i) (h2 : N[j]? = some x) : i = j := L2.nodup_ix nd (findIdx_get h) h2
theorem own_mem {scope : Scope} {x : Str} {i : Nat} (hk : scope.names.lookup x = some .local ∨ scope.names.lookup x = some .cell) (h : C.N.findIdx? (· == x) = some i) : i ∈ (ownOf C scope).map (·.2) := by
  have key : ∀ k, scope.names.lookup x = some k → (k == NameKind.local || k == .cell) = true → i ∈ (ownOf C scope).map (·.2) := fun k hk hb => by
    refine List.mem_map.mpr ⟨(x, i), ?_, rfl⟩
    unfold ownOf
    refine List.mem_filterMap.mpr ⟨(x, k), PySem.mem_of_lookup hk, ?_⟩
    simp only [hb, cond_true, h, Option.map_some]
  rcases hk with hk | hk
  · exact key _ hk rfl
  · exact key _ hk rfl
theorem slotW_of {x : Str} {i : Nat} (h : C.slotW x = some i) : (C.sc.names.lookup x = some .local ∨ C.sc.names.lookup x = some .cell) ∧ C.N.findIdx? (· == x) = some i := by
  unfold Ctx.slotW at h
  cases hb : ((C.sc.names.lookup x == some .local) || (C.sc.names.lookup x == some .cell)) with
  | false => rw [hb] at h; cases h
  | true =>
    rw [hb] at h
    simp only [Bool.or_eq_true, beq_iff_eq] at hb
    exact ⟨hb, h⟩
/-- a comprehension's target stores to its own names -/
theorem blk_stores (G : Gd Z d C X) {scope : Scope} (sh : Shared) (Hh : Hp) (L : Addr) (cl : List (Str × Addr)) (fp : List Addr) : Stores (X.blk sh Hh scope (compEnvC scope cl L X.env) fp) { C with sc := scope } := by
  intro x i h
  obtain ⟨h1, h2⟩ := slotW_of h
  have h1 : scope.names.lookup x = some .local ∨ scope.names.lookup x = some .cell := h1
  refine ⟨?_, ?_, ?_⟩
  · show X.N[i]? = some x
    rw [G.N]; exact findIdx_get h2
  · rcases h1 with h1 | h1
    · exact .inl (L2.lookup_relS_keep (by decide) h1)
    · exact .inr (L2.lookup_relS_keep (by decide) h1)
  · rcases h1 with h1 | h1
    · exact .inr (L2.lookup_relS_keep (by decide) h1)
    · refine .inl ?_
      show (scope.names.lookup x == some NameKind.cell) = true
      rw [h1] <;> rfl
mutual
theorem nt_own {scope : Scope} : ∀ {n : Nat} {e : Expr} {t : Nt}, trNt { C with sc := scope } n e = some t → ∀ i ∈ slotsNt t, i ∈ (ownOf C scope).map (·.2)
  | 0, e, t, h, i, hi => by unfold trNt at h; cases h
  | n + 1, e, t, h, i, hi => by
    unfold trNt at h
    split at h
    · rename_i x p
      cases h1 : ({ C with sc := scope } : Ctx).slotW x with
      | none => rw [h1] at h; cases h
      | some j =>
        rw [h1] at h
        cases h
        unfold slotsNt at hi
        have := List.mem_singleton.mp hi
        subst this
        obtain ⟨h2, h3⟩ := slotW_of h1
        exact own_mem h2 h3
    · rename_i es k p
      cases h1 : mapO (trNt { C with sc := scope } n) es with
      | none => rw [h1] at h; cases h
      | some ts =>
        rw [h1] at h
        cases h
        unfold slotsNt at hi
        exact nts_own h1 i hi
    · cases h
theorem nts_own {scope : Scope} {n : Nat} : ∀ {es : List Expr} {ts : List Nt}, mapO (trNt { C with sc := scope } n) es = some ts → ∀ i ∈ slotsNts ts, i ∈ (ownOf C scope).map (·.2)
  | [], ts, h, i, hi => by
    cases h
    unfold slotsNts at hi
    cases hi
  | e :: es, ts, h, i, hi => by
    obtain ⟨t, ts', h1, h2, rfl⟩ := mapO_cons h
    unfold slotsNts at hi
    rcases List.mem_append.mp hi with hi | hi
    · exact nt_own h1 i hi
    · exact nts_own h2 i hi
end
end
end Ev
/-! EvG3: the cells of a comprehension's block. -/
namespace Ev
open PySem PySem.Spec PyProof.Rows
open L2 (V HO Hp Cx Inv PE PT PA PS PSs PG PGs PI PW PO PK RelV Vals upd upd_same upd_ne SqL SqT TE TT TA TS TG TGs TI TO WX XK VK Room Takes EP)
section
variable {Z : Zx} {cs : List Nat} {W : WX} {X : Cx} {σ σ' : L2.St} {g g1 g2 : Gh} {H H1 H2 : Hp} {s s1 s2 s' : S} {en en' : Env} {α β : Type} {K : PySem.W.Frag} {d n : Nat} {C : Ctx}
theorem cellsOf_is {scope : Scope} {i : Nat} (h : i ∈ cellsOf C scope) : ∃ x, (x, NameKind.cell) ∈ scope.names ∧ C.N.findIdx? (· == x) = some i ∧ i ∈ C.cs := by
  unfold cellsOf at h
  obtain ⟨⟨x, k⟩, h1, h2⟩ := List.mem_filterMap.mp h
  simp only at h2
  cases hk : (k == NameKind.cell) with
  | false => rw [hk] at h2; cases h2
  | true =>
    rw [hk] at h2
    have hk : k = .cell := by simpa using hk
    subst hk
    cases h3 : C.N.findIdx? (· == x) with
    | none => rw [h3] at h2; cases h2
    | some j =>
      rw [h3] at h2
      have h2 : (bif C.cs.contains j then some j else none) = some i := h2
      cases h4 : C.cs.contains j with
      | false => rw [h4] at h2; cases h2
      | true =>
        rw [h4] at h2
        cases h2
        exact ⟨x, h1, h3, by simpa using h4⟩
theorem relS_free {sc : Scope} : ∀ {names : List (Str × NameKind)} {x : Str}, names.lookup x = some .free →
    ((names.map fun (n, k) => if (k == NameKind.free && sc.kind == .function && sc.names.lookup n == some .cell) then (n, NameKind.cell) else (n, k)).lookup x = some .cell ∨
      (names.map fun (n, k) => if (k == NameKind.free && sc.kind == .function && sc.names.lookup n == some .cell) then (n, NameKind.cell) else (n, k)).lookup x = some .free)
  | [], _, h => by simp at h
  | (n, k) :: r, x, h => by
    rw [List.lookup_cons] at h
    simp only [List.map_cons]
    by_cases hc : (k == NameKind.free && sc.kind == .function && sc.names.lookup n == some .cell) = true
    · rw [if_pos hc, List.lookup_cons]
      cases hx : x == n with
      | true => exact .inl rfl
      | false =>
        rw [hx] at h
        exact relS_free h
    · rw [if_neg hc, List.lookup_cons]
      cases hx : x == n with
      | true =>
        rw [hx] at h
        have h : some k = some NameKind.free := h
        exact .inr h
      | false =>
        rw [hx] at h
        exact relS_free h
/-- the cells' addresses by name -/
structure BlkCl (C : Ctx) (X : Cx) (scope : Scope) (cl : List (Str × Addr)) : Prop where
  own : ∀ x, (x, NameKind.cell) ∈ scope.names → ∃ a, cl.lookup x = some a
  free : ∀ x a, scope.names.lookup x = some .free → X.env.cells.lookup x = some a → cl.lookup x = some a
theorem blk_cl {pins : List (Addr × Obj)} {s0 : Shared} {scope : Scope} (I : Inv X pins σ H s0) (bk : L2.BlkOk X.N X.env.scope scope (ownOf C scope)) (m : Nat) (hm : s0.heap.objs.size ≤ m) :
    BlkCl C X scope (cellsFrom m scope.names (L2.cloFrom X.env.cells scope.names [])) where
  own := fun x hx => by
    obtain ⟨c, hc⟩ := L2.cells_has (n := m) (acc := L2.cloFrom X.env.cells scope.names []) hx
    obtain ⟨c', h⟩ := L2.mem_lookup hc
    exact ⟨c', h⟩
  free := fun x a hx ha => by
    have hmem : (x, NameKind.free) ∈ scope.names := PySem.mem_of_lookup hx
    have h1 := L2.cells_acc (names := scope.names) (n := m) (L2.cloFrom_has (cells := X.env.cells) (acc := []) hmem)
    obtain ⟨c', h2⟩ := L2.mem_lookup h1
    rw [h2]
    -- whatever is told of x is told by the closure
    have key : ∀ (names : List (Str × NameKind)) (n : Nat) (acc : List (Str × Addr)) (c : Addr), (x, c) ∈ cellsFrom n names acc → (x, c) ∈ acc ∨ (x, NameKind.cell) ∈ names := by
      intro names
      induction names with
      | nil => intro n acc c h; exact .inl h
      | cons q r ih =>
        obtain ⟨y, k⟩ := q
        intro n acc c h
        unfold cellsFrom at h
        split at h
        · rename_i hk
          rcases ih _ _ _ h with h | h
          · rcases List.mem_cons.mp h with h | h
            · cases h
              have hk : k = .cell := by simpa using hk
              subst hk
              exact .inr List.mem_cons_self
            · exact .inl h
          · exact .inr (List.mem_cons_of_mem _ h)
        · rcases ih _ _ _ h with h | h
          · exact .inl h
          · exact .inr (List.mem_cons_of_mem _ h)
    rcases key _ _ _ _ (PySem.mem_of_lookup h2) with h | h
    · rcases L2.cloFrom_mem h with h | ⟨_, h⟩
      · cases h
      · rw [ha] at h
        rw [h] <;> rfl
    · have := bk.uniq _ h
      rw [show scope.names.lookup (x, NameKind.cell).1 = _ from hx] at this
      cases this
/-- the places of the block's own cells -/
def placesOf (C : Ctx) (scope : Scope) (cl : List (Str × Addr)) : List Addr := (cellsOf C scope).map fun i => (cl.lookup (C.N.getD i ⟨#[]⟩)).getD 0
theorem places_at {scope : Scope} {cl : List (Str × Addr)} (hcl : BlkCl C X scope cl) {k i : Nat} (h : (cellsOf C scope)[k]? = some i) :
    ∃ x a, C.N[i]? = some x ∧ (x, NameKind.cell) ∈ scope.names ∧ cl.lookup x = some a ∧ (placesOf C scope cl)[k]? = some a ∧ i ∈ C.cs ∧ C.N.findIdx? (· == x) = some i := by
  obtain ⟨x, h1, h2, h3⟩ := cellsOf_is (List.mem_of_getElem? h)
  obtain ⟨a, h4⟩ := hcl.own x h1
  have h5 := findIdx_get h2
  refine ⟨x, a, h5, h1, h4, ?_, h3, h2⟩
  unfold placesOf
  rw [List.getElem?_map, h]
  have : C.N.getD i ⟨#[]⟩ = x := by
    rw [List.getD_eq_getElem?_getD, h5] <;> rfl
  show some ((cl.lookup (C.N.getD i ⟨#[]⟩)).getD 0) = some a
  rw [this, h4] <;> rfl
theorem vis_cell {sc : Scope} {x : Str} (h : sc.names.lookup x = some .cell ∨ sc.names.lookup x = some .free) : vis (sc.names.lookup x) = true := by
  rcases h with h | h <;> rw [h] <;> rfl
/-- the slots and cells as a turn begins -/
theorem blk_E (G : Gd Z d C X) {scope : Scope} {cl : List (Str × Addr)} {sh : Shared} {Hh : Hp} {L : Addr} {fp : List Addr} (hok : compOk C scope = true) (hcl : BlkCl C X scope cl) (r1 : RelS Z g1 H1 s1) (e : RelE C.cs X g1 H1 σ en s1) {gT : Gh} {HT : Hp} {sT : S}
    (hφ : ∃ l, gT.φ = g1.φ ++ l) (hψ : ∃ l, gT.ψ = (g1.ψ ++ placesOf C scope cl) ++ l) (hlv : gT.lv = g1.lv ++ List.range' s1.m (placesOf C scope cl).length) (ht : ∀ a xs, H1 a = some (.tup xs) → HT a = some (.tup xs))
    (hcp : ∀ c, c < s1.m → sT.c.get c = s1.c.get c) :
    RelE C.cs (X.blk sh Hh scope (compEnvC scope cl L X.env) fp) gT HT (L2.wipe σ ((ownOf C scope).map (·.2))) ⟨wipe en.σ ((ownOf C scope).map (·.2)), (newCells en.ce s1 (cellsOf C scope)).1⟩ (resetCells (newCells en.ce s1 (cellsOf C scope)).1 sT (cellsOf C scope)) := by
  unfold compOk at hok
  simp only [Bool.and_eq_true, decide_eq_true_eq, List.all_eq_true] at hok
  obtain ⟨⟨hbk, hnd⟩, hvis⟩ := hok
  have bk := L2.blkOk_by hbk
  have hin : ∀ i ∈ cellsOf C scope, i < en.ce.length := fun i hi => by
    obtain ⟨x, _, h2, _⟩ := cellsOf_is hi
    rw [e.cen, G.N]
    exact (List.getElem?_eq_some_iff.mp (findIdx_get h2)).1
  obtain ⟨n1, n2, n3, n4, n5, n6, n7⟩ := newCells_is (cellsOf C scope) en.ce s1 hnd hin
  have lp : (placesOf C scope cl).length = (cellsOf C scope).length := by unfold placesOf; rw [List.length_map]
  obtain ⟨q1, q2, q3, q4, q5⟩ := resetCells_is (cellsOf C scope) (newCells en.ce s1 (cellsOf C scope)).1 sT
  -- a captured cell's name is free in the block
  have old : ∀ i c, en.ce[i]? = some (some c) → ∃ x a, C.N[i]? = some x ∧ X.env.cells.lookup x = some a ∧ g1.ψ[c]? = some a ∧ s1.c.get c = some ((en.σ[i]?).join) ∧ c ∈ g1.lv ∧ i ∈ C.cs ∧ scope.names.lookup x = some .free := fun i c h => by
    obtain ⟨x, a, h1, h2, h3, h4, h5, h6, h7⟩ := e.cell i c h
    rw [G.N] at h1
    have := hvis i h6
    rw [h1] at this
    simp only at this
    rw [G.sc] at h7
    rw [vis_cell h7] at this
    simp only [Bool.not_true, Bool.false_or, beq_iff_eq] at this
    exact ⟨x, a, h1, h2, h3, h4, h5, h6, this⟩
  have notown : ∀ i x, C.N[i]? = some x → scope.names.lookup x = some .free → i ∉ (ownOf C scope).map (·.2) ∧ i ∉ cellsOf C scope := fun i x h1 h2 => by
    constructor
    · intro hi
      obtain ⟨⟨y, j⟩, hy, rfl⟩ := List.mem_map.mp hi
      have h3 := bk.ix _ hy
      have h3 : C.N[j]? = some y := h3
      rw [show (y, j).2 = j from rfl, h3] at h1
      cases h1
      unfold ownOf at hy
      obtain ⟨⟨z, k⟩, h4, h5⟩ := List.mem_filterMap.mp hy
      simp only at h5
      cases hk : (k == NameKind.local || k == NameKind.cell) with
      | false => rw [hk] at h5; cases h5
      | true =>
        rw [hk] at h5
        cases hz : C.N.findIdx? (· == z) with
        | none => rw [hz] at h5; cases h5
        | some j' =>
          rw [hz] at h5
          cases h5
          have q := bk.uniq _ h4
          simp only at q
          rw [h2] at q
          cases q
          cases hk
    · intro hi
      obtain ⟨y, h3, h4, _⟩ := cellsOf_is hi
      have h4 := findIdx_get h4
      rw [h4] at h1
      cases h1
      have q := bk.uniq _ h3
      simp only at q
      rw [h2] at q
      cases q
  have inown : ∀ i ∈ cellsOf C scope, i ∈ (ownOf C scope).map (·.2) := fun i hi => by
    obtain ⟨y, h3, h4, _⟩ := cellsOf_is hi
    exact own_mem (.inr (bk.uniq _ h3)) h4
  refine ⟨?_, ?_, fun i w hw => ?_, fun i c hc => ?_, fun c hc => ?_⟩
  · show (wipe en.σ _).length = X.N.length
    rw [wipe_len]; exact e.len
  · show (newCells en.ce s1 (cellsOf C scope)).1.length = X.N.length
    rw [n1]; exact e.cen
  · obtain ⟨h1, h2⟩ := wipe_get _ _ _ _ hw
    obtain ⟨v, h3, h4⟩ := e.slot i w h1
    exact ⟨v, by rw [wipeV_off _ _ _ h2]; exact h3, Rep.mono hφ ht _ _ h4⟩
  · by_cases hi : i ∈ cellsOf C scope
    · obtain ⟨k, hk, hki⟩ := List.getElem_of_mem hi
      have hki : (cellsOf C scope)[k]? = some i := by rw [List.getElem?_eq_getElem hk, hki]
      have hc' := n3 k i hki
      have hc : (newCells en.ce s1 (cellsOf C scope)).1[i]? = some (some c) := hc
      rw [hc'] at hc
      cases hc
      obtain ⟨x, a, i1, i2, i3, i4, i5, i6⟩ := places_at hcl hki
      refine ⟨x, a, by show X.N[i]? = some x; rw [G.N]; exact i1, i3, ?_, ?_, ?_, i5, .inl (L2.lookup_relS_keep (by decide) (bk.uniq _ i2))⟩
      · refine pre_get hψ ?_
        rw [List.getElem?_append_right (by rw [r1.m]; omega), r1.m]
        have : s1.m + k - s1.m = k := by omega
        rw [this]; exact i4
      · rw [q4 _ ⟨i, hi, hc'⟩]
        show some none = some ((wipe en.σ _)[i]?).join
        rw [wipe_on _ _ _ (inown i hi)]
      · rw [hlv, List.mem_append, List.mem_range'_1]
        refine .inr ⟨by omega, ?_⟩
        rw [lp]; omega
    · have hc : (newCells en.ce s1 (cellsOf C scope)).1[i]? = some (some c) := hc
      rw [n2 i hi] at hc
      obtain ⟨x, a, h1, h2, h3, h4, h5, h6, h7⟩ := old i c hc
      have hlt : c < s1.m := by rw [← r1.m]; exact (List.getElem?_eq_some_iff.mp h3).1
      refine ⟨x, a, by show X.N[i]? = some x; rw [G.N]; exact h1, hcl.free x a h7 h2, ?_, ?_, by rw [hlv]; exact List.mem_append_left _ h5, h6, relS_free h7⟩
      · refine pre_get hψ ?_
        rw [List.getElem?_append_left (by rw [r1.m]; exact hlt)]
        exact h3
      · rw [q5 c fun ⟨j, hj, hjc⟩ => ?_, hcp c hlt]
        · show s1.c.get c = some ((wipe en.σ _)[i]?).join
          rw [wipe_off _ _ _ (notown i x h1 h7).1]
          exact h4
        · obtain ⟨k, hk, hkj⟩ := List.getElem_of_mem hj
          have hkj : (cellsOf C scope)[k]? = some j := by rw [List.getElem?_eq_getElem hk, hkj]
          rw [n3 k j hkj] at hjc
          cases hjc
          omega
  · rw [hlv, List.mem_append, List.mem_range'_1] at hc
    rcases hc with hc | ⟨hc1, hc2⟩
    · obtain ⟨i, hi⟩ := e.live c hc
      obtain ⟨x, a, h1, h2, h3, h4, h5, h6, h7⟩ := old i c hi
      refine ⟨i, ?_⟩
      show (newCells en.ce s1 (cellsOf C scope)).1[i]? = some (some c)
      rw [n2 i (notown i x h1 h7).2]
      exact hi
    · rw [lp] at hc2
      have hk : c - s1.m < (cellsOf C scope).length := by omega
      refine ⟨(cellsOf C scope)[c - s1.m], ?_⟩
      show (newCells en.ce s1 (cellsOf C scope)).1[_]? = some (some c)
      rw [n3 (c - s1.m) _ (List.getElem?_eq_getElem hk)]
      have : s1.m + (c - s1.m) = c := by omega
      rw [this]
/-- a slot of the block's own names has no cell of the def's -/
theorem blk_own (G : Gd Z d C X) {scope : Scope} (hok : compOk C scope = true) (e : RelE C.cs X g1 H1 σ en s1) : ∀ i c, i ∈ (ownOf C scope).map (·.2) → en.ce[i]? = some (some c) → False := fun i c hi h => by
  unfold compOk at hok
  simp only [Bool.and_eq_true, decide_eq_true_eq, List.all_eq_true] at hok
  obtain ⟨⟨hbk, _⟩, hvis⟩ := hok
  have bk := L2.blkOk_by hbk
  obtain ⟨x, a, h1, _, _, _, _, h6, h7⟩ := e.cell i c h
  rw [G.N] at h1
  have hx := hvis i h6
  rw [h1] at hx
  simp only at hx
  rw [G.sc] at h7
  rw [vis_cell h7] at hx
  simp only [Bool.not_true, Bool.false_or, beq_iff_eq] at hx
  obtain ⟨⟨y, j⟩, hy, rfl⟩ := List.mem_map.mp hi
  have h3 := bk.ix _ hy
  have h3 : C.N[j]? = some y := h3
  rw [show (y, j).2 = j from rfl, h3] at h1
  cases h1
  unfold ownOf at hy
  obtain ⟨⟨z, k⟩, h4, h5⟩ := List.mem_filterMap.mp hy
  simp only at h5
  cases hk : (k == NameKind.local || k == NameKind.cell) with
  | false => rw [hk] at h5; cases h5
  | true =>
    rw [hk] at h5
    cases hz : C.N.findIdx? (· == z) with
    | none => rw [hz] at h5; cases h5
    | some j' =>
      rw [hz] at h5
      cases h5
      have q := bk.uniq _ h4
      simp only at q
      rw [hx] at q
      cases q
      cases hk
/-- a list that is no object of ours is written -/
theorem RelS.sideL (r : RelS Z g H s) {p : Addr} {us vs : List V} (hp : p ∉ g.φ) (h : H p = some (.lst us)) : RelS Z g (upd H p (.lst vs)) s where
  n := r.n
  m := r.m
  inj := r.inj
  obj := fun k a e => by
    obtain ⟨ob, h1, h2⟩ := r.obj k a e
    exact ⟨ob, h1, h2.mono ⟨[], by simp⟩ ⟨[], by simp⟩ (fix_lst h) (upd_ne fun z => hp (by rw [← z]; exact List.mem_of_getElem? e))⟩
  hi := r.hi
  cel := fun c a ow h1 h2 h3 => (r.cel c a ow h1 h2 h3).mono ⟨[], by simp⟩ (fix_lst h)
  chi := r.chi
  cin := r.cin
  tab := fun q hq => by
    obtain ⟨ps, h1, h2, h3⟩ := r.tab q hq
    refine ⟨ps, ?_, h2, fun pos cv hc => ?_⟩
    · rw [upd_ne (fun z => by rw [z, h] at h1; cases h1)]; exact h1
    · obtain ⟨c, e1, e2⟩ := h3 pos cv hc
      exact ⟨c, e1, fix_lst h _ _ e2 trivial⟩
theorem R.bind_assoc {α β γ : Type} (r : R α) (f : α → S → R β) (k : β → S → R γ) : (r.bind f).bind k = r.bind fun a s => (f a s).bind k := by
  cases r <;> rfl
end
end Ev
/-! EvG4: comprehensions. -/
namespace Ev
open PySem PySem.Spec PyProof.Rows
open L2 (V HO Hp Cx Inv PE PT PA PS PSs PG PGs PI PW PO PK PTs RelV Vals upd upd_same upd_ne SqL SqT TE TT TA TS TG TGs TI TO WX XK VK Room Takes EP FpOk)
section
variable {Z : Zx} {cs : List Nat} {W : WX} {X : Cx} {σ σ' : L2.St} {g g1 g2 : Gh} {H H1 H2 : Hp} {s s1 s2 s' : S} {en en' : Env} {α β : Type} {K : PySem.W.Frag} {d n : Nat} {C : Ctx} {cF : Nat → List D → S → R D} {cV : D → List D → S → R D}
theorem no_of_noEx {r : R α} {f : α → S → R β} {K : β → S → Gh → Hp → Prop} (h : Fin Z W σ g H s (r.noEx.bind f) K) : ∃ a s1, r = .ok a s1 ∧ Fin Z W σ g H s (f a s1) K := by
  cases r with
  | ok a s1 => exact ⟨a, s1, rfl, h⟩
  | ex _ _ _ => exact h.elim
  | bad => exact h.elim
theorem fits_of {e : Expr} {c : It} {b : Bool} (h : trI n C b e = some c) : ∀ (env : PySem.Env) (x : Value), foldedSetIterable e env x = pure x := by
  intro env x
  cases n with
  | zero => unfold trI at h; cases h
  | succ n =>
    cases e <;> first
      | rfl
      | (unfold trI at h
         simp only at h
         cases n with
         | zero => unfold trE at h; cases h
         | succ n => unfold trE at h; cases h)
/-- what a comprehension's turn promises of its value -/
def noW : WX := fun _ _ _ _ => False
/-- the block runs; use: what is done with the new list ahead of the block's end -/
theorem comp_core (ih : IHE Z d cF cV n) (G : Gd Z d C X) (tk : Takes X W) {elt tg it : Expr} {ifs : List Expr} {scope : Scope} {pos pos' : Pos} {cit : It} {ctg : Nt} {cifs : Es} {celt : E} (hl : Nat.ble ifs.length 1 = true) (hok : compOk C scope = true)
    (h1 : trI n C (isTup tg) it = some cit) (h2 : trNt { C with sc := scope } 5 tg = some ctg) (h3 : trL n { C with sc := L2.relS scope C.sc } ifs = some cifs) (h4 : trE n { C with sc := L2.relS scope C.sc } elt = some celt)
    {use : Option (Value → Sem Unit)} {Qf : Value → Shared → Prop} {pins : List (Addr × Obj)} {s0 : Shared} {Q : VK} (I : Inv X pins σ H s0) (hq0 : tEv Z C.cs X W (evE cF cV (.comp ((ownOf C scope).map (·.2)) (cellsOf C scope) ctg cit cifs celt)) σ H Q)
    (hend : ∀ D L s' m H', Inv X pins σ H' s' → Q (.ref D) H' → s'.heap.Ns L m → FpOk X pins H' L → compPost (model X.prog X.w) X.A X.xe use Qf (.ref D) L (.ok .next) s') :
    wpAny (model X.prog X.w) X.A (comprehension (.ListComp elt [⟨tg, it, ifs, 0⟩] scope pos) scope X.env pos' (newList []) false (eval it X.env) use) Qf X.xe s0 := by
  have hok' := hok
  unfold compOk at hok'
  simp only [Bool.and_eq_true, decide_eq_true_eq] at hok'
  have bk0 := L2.blkOk_by hok'.1.1
  have bk : L2.BlkOk X.N X.env.scope scope (ownOf C scope) := by rw [G.N, G.sc]; exact bk0
  have nd : X.N.Nodup := by rw [G.N]; exact G.nd
  -- the block's parts
  have gd : ∀ (sh : Shared) (Hh : Hp) (L : Addr) (cl : List (Str × Addr)) (fp : List Addr), (∀ x c, cl.lookup x = some c → X.base.get? c = none ∧ c ∉ L2.frs X.stack) → Gd Z d { C with sc := L2.relS scope C.sc } (X.blk sh Hh scope (compEnvC scope cl L X.env) fp) := fun sh Hh L cl fp hcf => blk_gd G sh Hh L cl fp hcf
  have pgB : ∀ (sh : Shared) (Hh : Hp) (L : Addr) (cl : List (Str × Addr)) (fp : List Addr), PG (X.blk sh Hh scope (compEnvC scope cl L X.env) fp) tg (gNt Z C.cs (X.blk sh Hh scope (compEnvC scope cl L X.env) fp) ctg) := fun sh Hh L cl fp => pg_nt (X := X.blk sh Hh scope (compEnvC scope cl L X.env) fp) (C := { C with sc := scope }) nd G.calm (blk_stores G sh Hh L cl fp) 5 tg ctg h2
  have ptB : ∀ (sh : Shared) (Hh : Hp) (L : Addr) (cl : List (Str × Addr)) (fp : List Addr), (∀ x c, cl.lookup x = some c → X.base.get? c = none ∧ c ∉ L2.frs X.stack) → PTs (X.blk sh Hh scope (compEnvC scope cl L X.env) fp) ifs (tTv Z C.cs (X.blk sh Hh scope (compEnvC scope cl L X.env) fp) noW (evT cF cV cifs)) :=
    fun sh Hh L cl fp hcf => ih.ts _ _ noW (gd sh Hh L cl fp hcf) LamX.takes0 ifs cifs (Nat.le_of_ble_eq_true hl) h3
  have peB : ∀ (sh : Shared) (Hh : Hp) (L : Addr) (cl : List (Str × Addr)) (fp : List Addr), (∀ x c, cl.lookup x = some c → X.base.get? c = none ∧ c ∉ L2.frs X.stack) → PE (X.blk sh Hh scope (compEnvC scope cl L X.env) fp) elt (tEv Z C.cs (X.blk sh Hh scope (compEnvC scope cl L X.env) fp) noW (evE cF cV celt)) :=
    fun sh Hh L cl fp hcf => (ih.pe _ _ noW (gd sh Hh L cl fp hcf) LamX.takes0 elt celt h4).1
  obtain ⟨g, en, s, r, e, hq⟩ := hq0
  have clos : ∀ y ∈ scope.names, y.2 = .free → ∃ c, X.env.cells.lookup y.1 = some c := fun y hy z => I.ok.has _ (bk.free y hy z)
  refine wpAny_comprehension_free (use := use) rfl (fits_of h1 X.env) (L2.closure_ok clos) bk.kind (fun y hy z => by rw [bk.uniq y hy, z]) ?_
  -- the walked thing
  refine L2.thn ((ih.pi C X W G tk tg it cit h1).run pins s0 σ H (fun J H1 => ∃ ri s1 g1, RelS Z g1 H1 s1 ∧ RelE C.cs X g1 H1 σ en s1 ∧ After [] g H s g1 H1 s1 ∧ Walks Z X.K g1 H1 ri J ∧
    Fin Z W σ g1 H1 s1 ((compLoop ri.next (fun s y => putNt ⟨wipe en.σ ((ownOf C scope).map (·.2)), (newCells en.ce s1 (cellsOf C scope)).1⟩ (resetCells (newCells en.ce s1 (cellsOf C scope)).1 s (cellsOf C scope)) ctg y) (fun e s => evT cF cV cifs e s) (fun e s => evE cF cV celt e s) line 0 [] (newCells en.ce s1 (cellsOf C scope)).2).bind
      fun acc s => (dropCells (newCells en.ce s1 (cellsOf C scope)).1 s (cellsOf C scope)).newL acc.reverse) (KV Q)) I ⟨g, en, s, r, e, (Fin.bind hq).mono fun ri s1 g1 H1 ⟨a1, r1, q1⟩ J hw => ⟨ri, s1, g1, r1, e.after r.m a1, a1, hw, q1⟩⟩) fun xv sa hx => L2.thn hx fun itv sb hit => ?_
  obtain ⟨itA, fp, tn, J, H1, rfl, I1, TJ, tn0, fpk, ri, s1, g1, r1, e1, a1, hw, hfin⟩ := hit
  -- the new list, the block's frame
  refine wpAny_newObj_type (L2.newEnv_comp ?_) (by show 0 ≤ sizeLine; decide)
  obtain ⟨Da, hDa⟩ : ∃ Da, Da = sb.heap.objs.size := ⟨_, rfl⟩
  have hD0 : H1 Da = none := I1.hok.fresh (by rw [hDa]; exact Nat.le_refl _)
  obtain ⟨sc, hsc⟩ : ∃ sc : Shared, sc = { sb with heap := sb.heap.push { cls := .type "list", data := .seq ([] : List Value).toArray } } := ⟨_, rfl⟩
  have Ic : Inv X pins σ (upd H1 Da (.lst [])) sc := by
    rw [hsc]
    refine I1.laid (t' := sb.toks) (fun b o q => Heap.get?_push_of_some _ q) (by rw [hDa]; exact Nat.le_refl _) ⟨Nat.zero_le _, [], 0, .nil, ?_⟩
    rw [hDa]
    exact Heap.get?_push_size _ rfl
  have fpC : ∀ b ∈ fp, FpOk X pins (upd H1 Da (.lst [])) b ∧ b < sc.heap.objs.size := fun b hb => by
    obtain ⟨o, q, _⟩ := TJ.obj _ _ tn0 b hb
    have hlt := Heap.lt_size q
    refine ⟨⟨?_, (fpk b hb).2⟩, by rw [hsc, Heap.size_push]; exact Nat.lt_succ_of_lt hlt⟩
    rw [upd_ne (by rw [hDa]; exact Nat.ne_of_lt hlt)]
    exact (fpk b hb).1
  have tnC : tn 0 sc.heap := TJ.keep _ _ _ tn0 fun b _ o q => by rw [hsc]; exact Heap.get?_push_of_some _ q
  have IB := L2.block_start Ic bk nd fpC
  have hcl := blk_cl Ic bk (sc.heap.objs.size + 1) (Nat.le_succ _)
  have hcf := blk_cf G Ic clos (m := sc.heap.objs.size + 1) (Nat.le_succ _)
  rw [← hsc]
  obtain ⟨cl, hclE⟩ : ∃ cl, cl = cellsFrom (sc.heap.objs.size + 1) scope.names (L2.cloFrom X.env.cells scope.names []) := ⟨_, rfl⟩
  rw [← hclE] at hcl IB hcf
  obtain ⟨La, hLa⟩ : ∃ La, La = sc.heap.objs.size := ⟨_, rfl⟩
  rw [← hLa] at IB
  obtain ⟨Hc, hHc⟩ : ∃ Hc, Hc = upd H1 Da (.lst []) := ⟨_, rfl⟩
  rw [← hHc] at IB Ic fpC
  show codeAny _ _ (.compStart (.ListComp elt [⟨tg, it, ifs, 0⟩] scope pos) 0 (.ref itA) (.ref sb.heap.objs.size) (compEnvC scope (cellsFrom (sc.heap.objs.size + 1) scope.names (L2.cloFrom X.env.cells scope.names [])) sc.heap.objs.size X.env))
    (compPost (model X.prog X.w) X.A X.xe use Qf (.ref sb.heap.objs.size) sc.heap.objs.size) { sc with heap := pushCells (sc.heap.push { cls := .type "dict", data := .dict #[] }) scope.names }
  rw [← hclE, ← hLa, ← hDa]
  obtain ⟨Bl, hBl⟩ : ∃ Bl : Cx, Bl = X.blk sc Hc scope (compEnvC scope cl La X.env) fp := ⟨_, rfl⟩
  have pg := pgB sc Hc La cl fp
  have pt := ptB sc Hc La cl fp hcf
  have pe := peB sc Hc La cl fp hcf
  obtain ⟨own, hown⟩ : ∃ own, own = (ownOf C scope).map (·.2) := ⟨_, rfl⟩
  have hE : ∀ {gT : Gh} {HT : Hp} {sT : S}, (∃ l, gT.φ = g1.φ ++ l) → (∃ l, gT.ψ = (g1.ψ ++ placesOf C scope cl) ++ l) → gT.lv = g1.lv ++ List.range' s1.m (placesOf C scope cl).length → (∀ a xs, H1 a = some (.tup xs) → HT a = some (.tup xs)) → (∀ c, c < s1.m → sT.c.get c = s1.c.get c) → _ :=
    fun {gT HT sT} a b c d e => blk_E (sh := sc) (Hh := Hc) (L := La) (fp := fp) (gT := gT) (HT := HT) (sT := sT) G hok hcl r1 e1 a b c d e
  obtain ⟨s4, hs4⟩ : ∃ s4 : Shared, s4 = { sc with heap := pushCells (sc.heap.push { cls := .type "dict", data := .dict #[] }) scope.names } := ⟨_, rfl⟩
  rw [← hs4] at IB ⊢
  rw [← hBl] at IB pg pt pe hE
  have tn4 : tn 0 s4.heap := TJ.keep _ _ _ tnC fun b _ o q => by rw [hs4]; exact pushCells_keeps _ _ _ _ (Heap.get?_push_of_some _ q)
  have nfp : ∀ b ∈ fp, Hc b = none := fun b hb => (fpC b hb).1.1
  -- the cells of the block
  have hin : ∀ i ∈ cellsOf C scope, i < en.ce.length := fun i hi => by
    obtain ⟨x, _, z, _⟩ := cellsOf_is hi
    rw [e1.cen, G.N]
    exact (List.getElem?_eq_some_iff.mp (findIdx_get z)).1
  obtain ⟨n1, n2, n3, n4, n5, n6, n7⟩ := newCells_is (cellsOf C scope) en.ce s1 hok'.1.2 hin
  have lp : (placesOf C scope cl).length = (cellsOf C scope).length := by unfold placesOf; rw [List.length_map]
  obtain ⟨ce', hce⟩ : ∃ ce', ce' = (newCells en.ce s1 (cellsOf C scope)).1 := ⟨_, rfl⟩
  obtain ⟨s2, hs2⟩ : ∃ s2, s2 = (newCells en.ce s1 (cellsOf C scope)).2 := ⟨_, rfl⟩
  rw [← hs2] at n4 n5 n6 n7 hfin
  rw [← hce] at n1 n2 n3 hfin hE
  rw [← hown] at hfin hE IB
  rw [← lp] at n6 n7
  have rB : RelS Z { g1 with ψ := g1.ψ ++ placesOf C scope cl, lv := g1.lv ++ List.range' s1.m (placesOf C scope cl).length } H1 s2 := r1.more n4 n5 n6 n7
  obtain ⟨g2, hg2⟩ : ∃ g2 : Gh, g2 = { g1 with ψ := g1.ψ ++ placesOf C scope cl, lv := g1.lv ++ List.range' s1.m (placesOf C scope cl).length } := ⟨_, rfl⟩
  rw [← hg2] at rB
  have g2φ : g2.φ = g1.φ := by rw [hg2]
  have g2ψ : g2.ψ = g1.ψ ++ placesOf C scope cl := by rw [hg2]
  have g2lv : g2.lv = g1.lv ++ List.range' s1.m (placesOf C scope cl).length := by rw [hg2]
  have idsOf : ∀ (j c : Nat), j ∈ cellsOf C scope → ce'[j]? = some (some c) → s1.m ≤ c ∧ c < s1.m + (placesOf C scope cl).length := fun j c hj hc => by
    obtain ⟨k, hk, q⟩ := List.getElem_of_mem hj
    have q : (cellsOf C scope)[k]? = some j := by rw [List.getElem?_eq_getElem hk, q]
    rw [n3 k j q] at hc
    cases hc
    rw [lp]
    omega
  have idsAt : ∀ c, s1.m ≤ c → c < s1.m + (placesOf C scope cl).length → ∃ j ∈ cellsOf C scope, ce'[j]? = some (some c) := fun c hc1 hc2 => by
    rw [lp] at hc2
    have hk : c - s1.m < (cellsOf C scope).length := by omega
    refine ⟨(cellsOf C scope)[c - s1.m], List.getElem_mem hk, ?_⟩
    rw [n3 (c - s1.m) _ (List.getElem?_eq_getElem hk)]
    have : s1.m + (c - s1.m) = c := by omega
    rw [this]
  have stat : ∀ {σ' : L2.St} {H' : Hp} {s' : Shared}, Inv Bl [] σ' H' s' → (∀ b ∈ fp, H' b = none) → ∀ b ∈ fp, FpOk Bl [] H' b := fun {σ' H' s'} I' hn b hb => by
    subst hBl
    exact ⟨hn b hb, (I'.ok.exf b hb).1, I'.ok.exfs b hb, .inl hb, fun x c e => (I'.ok.exf b hb).2 x c e, fun p hp => absurd (show p ∈ ([] : List (Addr × Obj)) ++ [] from hp) (by simp)⟩
  have loop : codeAny (model X.prog X.w) X.A (.compLoop (.ListComp elt [⟨tg, it, ifs, 0⟩] scope pos) 0 (.ref itA) (.ref Da) (compEnvC scope cl La X.env)) (compPost (model X.prog X.w) X.A X.xe use Qf (.ref Da) La) s4 := by
    subst hBl
    have fin : ∀ {gH : Gh} {HH : Hp} {SS : S}, After (List.range' s1.m (placesOf C scope cl).length) g2 H1 s2 gH (mask Da HH) SS → (∃ l, gH.φ = g1.φ ++ l) ∧ (∃ l, gH.ψ = (g1.ψ ++ placesOf C scope cl) ++ l) ∧ gH.lv = g1.lv ++ List.range' s1.m (placesOf C scope cl).length ∧
        (∀ a u, H1 a = some u → Fix u → HH a = some u) ∧ ∀ c, c < s1.m → SS.c.get c = s1.c.get c := fun {gH HH SS} a => by
      refine ⟨by rw [← g2φ]; exact a.φ, by rw [← g2ψ]; exact a.ψ, by rw [a.lv, g2lv], fun b u q f => (mask_some (a.fix b u q f)).2, fun c hc => ?_⟩
      rw [a.cp c (by rw [n6]; omega) (by rw [List.mem_range'_1]; omega), n7 c, if_neg (by omega)]
    refine L2.compLoop_any (fun f s' => ∃ (i : Nat) (acc : List D) (accv : List V) (gH : Gh) (HH : Hp) (SS : S), Inv (X.blk sc Hc scope (compEnvC scope cl La X.env) fp) [] (L2.wipe σ own) HH s' ∧ tn i s'.heap ∧ (∀ b ∈ fp, HH b = none) ∧ HH Da = some (.lst accv) ∧ Reps gH.φ HH acc.reverse accv ∧ acc.length ≤ i ∧ f + i = line ∧
      RelS Z gH HH SS ∧ After (List.range' s1.m (placesOf C scope cl).length) g2 H1 s2 gH (mask Da HH) SS ∧ Da ∉ gH.φ ∧
      Fin Z W σ g1 H1 s1 ((compLoop ri.next (fun s y => putNt ⟨wipe en.σ own, ce'⟩ (resetCells ce' s (cellsOf C scope)) ctg y) (fun e s => evT cF cV cifs e s) (fun e s => evE cF cV celt e s) f i acc SS).bind fun acc s => (dropCells ce' s (cellsOf C scope)).newL acc.reverse) (KV Q)) ?_ line
      ⟨0, [], [], g2, Hc, s2, IB, tn4, nfp, by rw [hHc]; exact upd_same, reps_nil, Nat.le_refl _, rfl, by rw [hHc]; exact rB.aside (ext_new hD0), by rw [hHc, mask_new hD0]; exact After.refl _ _ _ _, by rw [g2φ]; exact r1.notin hD0, hfin⟩
    rintro f s5 ⟨i, acc, accv, gH, HH, SS, I5, tn5, nf5, hDa5, hR5, hl5, hf5, r5, a5, nD5, q5⟩
    obtain ⟨f1, f2, f3, f4, f5⟩ := fin a5
    cases f with
    | zero => exact q5.elim
    | succ f =>
      have wk := hw gH HH SS i f1 f4 r5
      unfold compLoop at q5
      cases hnx : ri.next SS i with
      | none => simp only [hnx] at q5; exact q5.elim
      | some o =>
        cases o with
        | none =>
          simp only [hnx] at q5
          have td := TJ.done (X.blk sc Hc scope (compEnvC scope cl La X.env) fp) rfl rfl rfl G.calm i [] s5 _ HH (fun _ _ => False) I5 (stat I5 nf5) tn5 (wk.2 hnx)
          refine L2.thnF td fun rr s6 ⟨hr, I6⟩ => ?_
          subst hr
          have q5 : Fin Z W σ g1 H1 s1 ((dropCells ce' SS (cellsOf C scope)).newL acc.reverse) (KV Q) := q5
          unfold S.newL at q5
          obtain ⟨_, q5⟩ := fin_guard q5
          obtain ⟨d1, d2, d3, d4, d5⟩ := dropCells_is (cellsOf C scope) ce' SS
          have rD : RelS Z gH HH (dropCells ce' SS (cellsOf C scope)) := r5.cells d1 d2 d3 (fun c ow q => by
            by_cases hc : ∃ j ∈ cellsOf C scope, ce'[j]? = some (some c)
            · rw [d4 c hc] at q; cases q
            · rw [d5 c hc] at q; exact .inr q) (fun c ow q => by
            by_cases hc : ∃ j ∈ cellsOf C scope, ce'[j]? = some (some c)
            · rw [d4 c hc] at q; cases q
            · rw [d5 c hc] at q; rw [d3]; exact r5.chi c ow q)
          have rL := rD.less (lv := g1.lv) fun c hc hn => by
            rw [f3, List.mem_append, List.mem_range'_1] at hc
            rcases hc with hc | ⟨hc1, hc2⟩
            · exact absurd hc hn
            · exact d4 c (idsAt c hc1 hc2)
          have rF := rL.adopt (ob0 := .lst acc.reverse) nD5 ⟨accv, hDa5, Reps.mono ⟨[Da], rfl⟩ (fun _ _ q => q) _ _ hR5⟩
          have hQ : Q (.ref Da) HH := by
            refine q5 { φ := gH.φ ++ [Da], ψ := gH.ψ, lv := g1.lv } HH ⟨pre_trans f1 ⟨[Da], rfl⟩, ?_, rfl, f4, fun b u q n t => ?_, fun b q => ?_, fun b hb => ?_, ?_, fun c hc _ => ?_⟩ rF (.ref Da) (Rep.ref ?_)
            · obtain ⟨l, hl⟩ := f2
              exact ⟨placesOf C scope cl ++ l, by show gH.ψ = _; rw [hl, List.append_assoc]⟩
            · exact (mask_some (a5.oth b u q (by rw [g2φ]; exact n) t)).2
            · refine a5.dom b ?_
              by_cases hb : b = Da
              · rw [hb, mask_at]
              · rw [mask_ne hb]; exact q
            · rcases List.mem_append.mp hb with hb | hb
              · rw [← g2φ]; exact a5.new b hb
              · have := List.mem_singleton.mp hb
                subst this
                exact .inr hD0
            · show s1.m ≤ (dropCells ce' SS (cellsOf C scope)).m
              rw [d3]
              exact Nat.le_trans (by rw [n6]; omega) a5.m
            · show (dropCells ce' SS (cellsOf C scope)).c.get c = s1.c.get c
              rw [d5 c fun ⟨j, hj, hjc⟩ => ?_, f5 c hc]
              have := idsOf j c hj hjc
              omega
            · have hn := rL.n
              have hn : gH.φ.length = (dropCells ce' SS (cellsOf C scope)).n := hn
              show (gH.φ ++ [Da])[(dropCells ce' SS (cellsOf C scope)).n]? = some Da
              rw [← hn]
              simp
          have IX : Inv X pins σ HH s6 := Ic.call' (ch := fp) I6.os I6.base I6.hok I6.bare fun b hb => ⟨(fpC b hb).1.2.2.2.1, (fpC b hb).1.2.1, (fpC b hb).1.2.2.2.2.1, (fpC b hb).1.2.2.2.2.2⟩
          have nL : HH La = none := I6.free
          obtain ⟨m, hn, _⟩ := I6.loc
          exact hend Da La s6 m HH IX hQ hn (Ic.fpOk (b := La) (by rw [hLa]; exact Nat.le_refl _) nL)
        | some y =>
          simp only [hnx] at q5
          obtain ⟨go, yl⟩ := wk.1 y hnx
          have ti := TJ.item (X.blk sc Hc scope (compEnvC scope cl La X.env) fp) rfl rfl rfl G.calm i [] s5 _ HH (fun _ _ => False) I5 (stat I5 nf5) tn5 go
          refine L2.thnF ti fun rr s6 ⟨u, hr, h6⟩ => ?_
          subst hr
          refine L2.thnF h6 fun _ s7 ⟨x, H7, I7, r7, y7, tn7, nf7⟩ => ?_
          obtain ⟨e7, p7⟩ := yl x H7 y7
          rw [R.bind_assoc] at q5
          obtain ⟨e8, s8, hp8, q5⟩ := no_of_noEx q5
          rw [R.bind_assoc] at q5
          obtain ⟨b9, s9, hb9, q5⟩ := no_of_noEx q5
          obtain ⟨z1, z2, z3, z4, z5⟩ := resetCells_is (cellsOf C scope) ce' SS
          have rR : RelS Z gH H7 (resetCells ce' SS (cellsOf C scope)) := (r5.aside e7).cells z1 z2 z3 (fun c ow q => by
            by_cases hc : ∃ j ∈ cellsOf C scope, ce'[j]? = some (some c)
            · obtain ⟨j, hj, hjc⟩ := hc
              refine .inl ?_
              rw [f3, List.mem_append, List.mem_range'_1]
              exact .inr (idsOf j c hj hjc)
            · rw [z5 c hc] at q; exact .inr q) (fun c ow q => by
            rw [z3]
            by_cases hc : ∃ j ∈ cellsOf C scope, ce'[j]? = some (some c)
            · obtain ⟨j, hj, hjc⟩ := hc
              have h0 := (idsOf j c hj hjc).2
              have h1 := a5.m
              rw [n6] at h1
              omega
            · rw [z5 c hc] at q; exact r5.chi c ow q)
          have rE := hE (sT := SS) f1 f2 f3 (fun a xs q => e7 _ _ (f4 a _ q trivial)) f5
          have I7' := I7.pinned (stat I7 nf7) (TJ.obj _ _ tn7)
          have len7 : (L2.wipe σ own).length = X.N.length := by rw [L2.wipe_length]; exact I.len
          refine L2.thnF (pg.run _ s7 _ H7 x u (fun σ8 H8 => H8 = H7 ∧ RelS Z gH H7 s8 ∧ RelE C.cs (X.blk sc Hc scope (compEnvC scope cl La X.env) fp) gH H7 σ8 e8 s8 ∧ After (cellsL ce' (slotsNt ctg)) gH H7 (resetCells ce' SS (cellsOf C scope)) gH H7 s8 ∧ Off (slotsNt ctg) (L2.wipe σ own) σ8) I7' r7
            ⟨gH, _, _, y, e8, s8, len7, rE.inj I7.ok nd, rR, rE, p7, hp8, fun σ8 i1 i2 i3 _ i5 => ⟨rfl, i1, i2, i3, i5⟩⟩) fun _ s8' ⟨σ8, H8, I8, eH, r8, e8', a8, o8⟩ => ?_
          subst eH
          -- the turn's steps, without the new list
          have a78 : After (List.range' s1.m (placesOf C scope cl).length) g2 H1 s2 gH (mask Da H8) s8 := by
            refine a5.trans ((After.aside (fun b u q => ?_)).trans (After.trans (s1 := resetCells ce' SS (cellsOf C scope)) ⟨⟨[], by simp⟩, ⟨[], by simp⟩, rfl, fun _ _ q _ => q, fun _ _ q _ _ => q, fun _ q => q, fun _ q => .inl q, by rw [z3]; exact Nat.le_refl _, fun c _ hc => ?_⟩ (a8.up fun c hc => ?_).mask))
            · obtain ⟨h1, h2⟩ := mask_some q
              rw [mask_ne h1]
              exact e7 b u h2
            · refine z5 c fun ⟨j, hj, hjc⟩ => hc ?_
              rw [List.mem_range'_1]
              exact idsOf j c hj hjc
            · obtain ⟨j, hj, hjc⟩ := of_cellsL hc
              rw [List.mem_range'_1]
              by_cases hjm : j ∈ cellsOf C scope
              · exact idsOf j c hjm hjc
              · rw [n2 j hjm] at hjc
                exact (blk_own G hok e1 j c (nt_own h2 j hj) hjc).elim
          have hD8 : H8 Da = some (.lst accv) := e7 _ _ hDa5
          refine L2.thnF (pt.run _ s8' σ8 H8 (fun b H9 => b = b9 ∧ ∃ g9, After [] gH H8 s8 g9 H9 s9 ∧ RelS Z g9 H9 s9) I8 ⟨gH, e8, s8, r8, e8', by rw [hb9]; exact fun g9 H9 a9 r9 => ⟨rfl, g9, a9, r9⟩⟩) fun b s9' ⟨H9, I9, eb, g9, a9, r9⟩ => ?_
          subst eb
          have e9 := e8'.after r8.m a9
          have hD9 : H9 Da = some (.lst accv) := a9.oth _ _ hD8 nD5 fun _ z => by cases z
          have nD9 : Da ∉ g9.φ := fun hm => by
            rcases a9.new Da hm with h | h
            · exact nD5 h
            · rw [hD8] at h; cases h
          have a89 := a78.trans ((a9.mask (D := Da)).up (L' := List.range' s1.m (placesOf C scope cl).length) fun c hc => absurd hc (by simp))
          have back : ∀ {s' : Shared} {H' : Hp}, Inv (X.blk sc Hc scope (compEnvC scope cl La X.env) fp) ([] ++ L2.pinsAt fp s7.heap) σ8 H' s' → Inv (X.blk sc Hc scope (compEnvC scope cl La X.env) fp) [] (L2.wipe σ own) H' s' ∧ tn (i + 1) s'.heap ∧ ∀ b ∈ fp, H' b = none := fun {s' H'} I' => by
            have pin' : ∀ b ∈ fp, ∀ o, s7.heap.get? b = some o → s'.heap.get? b = some o ∧ H' b = none := fun b hb o q =>
              let z := I'.pin (b, o) (List.mem_append_right _ (List.mem_append_right _ (L2.mem_pinsAt hb q)))
              ⟨z.1, z.2.1⟩
            refine ⟨(I'.unpinned (pins := [])).weak o8.1.symm (fun j v q => ?_), TJ.keep _ _ _ tn7 fun b hb o q => (pin' b hb o q).1, fun b hb => ?_⟩
            · rw [o8.2 j fun hj => ?_]
              · exact q
              · have := nt_own h2 j hj
                rw [← hown] at this
                exact (L2.wipe_some q).2 this
            · obtain ⟨o, q, _⟩ := TJ.obj _ _ tn7 b hb
              exact (pin' b hb o q).2
          cases b with
          | false =>
            simp only [Bool.false_eq_true, if_false]
            simp only [cond_false] at q5
            obtain ⟨i1, i2, i3⟩ := back I9
            exact ⟨f, Nat.lt_succ_self _, i + 1, acc, accv, g9, H9, s9, i1, i2, i3, hD9, a9.reps (Reps.mono (H := HH) ⟨[], by simp⟩ (fun b ys q => e7 b _ q) _ _ hR5), by omega, by omega, r9, a89, nD9, q5⟩
          | true =>
            simp only [if_true]
            simp only [cond_true] at q5
            rw [R.bind_assoc] at q5
            obtain ⟨w, s10, he10, q5⟩ := no_of_noEx q5
            refine L2.thnF (pe.run _ s9' σ8 H9 (fun v H10 => ∃ g10, After [] g9 H9 s9 g10 H10 s10 ∧ RelS Z g10 H10 s10 ∧ Rep g10.φ H10 w v) I9 ⟨g9, e8, s9, r9, e9, by rw [he10]; exact fun g10 H10 a10 r10 v hv => ⟨g10, a10, r10, hv⟩⟩) fun uv s10' ⟨v, H10, I10, rv, g10, a10, r10, hv⟩ => ?_
            have hD10 : H10 Da = some (.lst accv) := a10.oth _ _ hD9 nD9 fun _ z => by cases z
            have nD10 : Da ∉ g10.φ := fun hm => by
              rcases a10.new Da hm with h | h
              · exact nD9 h
              · rw [hD9] at h; cases h
            have hR10 : Reps g10.φ H10 acc.reverse accv := a10.reps (a9.reps (Reps.mono (H := HH) ⟨[], by simp⟩ (fun b ys q => e7 b _ q) _ _ hR5))
            have hlen : accv.length < sizeLine := by
              rw [← hR10.len, List.length_reverse, sizeLine_eq]
              have : line = 16777216 := rfl
              omega
            refine L2.app_ok (X := X.blk sc Hc scope (compEnvC scope cl La X.env) fp) I10 hD10 hlen rv fun s11 I11 => ?_
            obtain ⟨i1, i2, i3⟩ := back I11
            refine ⟨f, Nat.lt_succ_self _, i + 1, w :: acc, accv ++ [v], g10, _, s10, i1, i2, i3, upd_same, ?_, by simp only [List.length_cons]; omega, by omega, r10.sideL nD10 hD10, ?_, nD10, q5⟩
            · rw [List.reverse_cons]
              exact Reps.mono ⟨[], by simp⟩ (fun b ys q => fix_lst hD10 b _ q trivial) _ _ (hR10.append (reps_cons hv reps_nil))
            · rw [mask_upd]
              exact a89.trans ((a10.mask (D := Da)).up fun c hc => absurd hc (by simp))
  exact codeAny_compStart_list loop (TJ.self X.A 0 _ _ _ tn4 loop)
theorem st_comp (ih : IHE Z d cF cV n) (G : Gd Z d C X) (tk : Takes X W) {elt tg it : Expr} {ifs : List Expr} {scope : Scope} {pos : Pos} {cit : It} {ctg : Nt} {cifs : Es} {celt : E} (hl : Nat.ble ifs.length 1 = true) (hok : compOk C scope = true)
    (h1 : trI n C (isTup tg) it = some cit) (h2 : trNt { C with sc := scope } 5 tg = some ctg) (h3 : trL n { C with sc := L2.relS scope C.sc } ifs = some cifs) (h4 : trE n { C with sc := L2.relS scope C.sc } elt = some celt) :
    PE X (.ListComp elt [⟨tg, it, ifs, 0⟩] scope pos) (tEv Z C.cs X W (evE cF cV (.comp ((ownOf C scope).map (·.2)) (cellsOf C scope) ctg cit cifs celt))) := by
  refine ⟨fun pins s0 σ H Q I hq => ?_⟩
  rw [eval_ListComp]
  refine comp_core ih G tk hl hok h1 h2 h3 h4 I hq fun D L s' m H' I' q hn f => ⟨m, hn, fun h'' sm => ?_⟩
  obtain ⟨j0, j1, j2, j3, j4, j5⟩ := f
  exact ⟨.ref D, H', I'.turned (t' := s'.toks) (fun b o hb q => (sm.2 b hb).trans q) j0 j1 j3 j4 j5, rfl, q⟩
/-- name = [..], the name bound ahead of the block's end -/
theorem ps_setComp (ih : IHE Z d cF cV n) (G : Gd Z d C X) (tk : Takes X W) {elt tg it : Expr} {ifs : List Expr} {scope : Scope} {pos spos py : Pos} {cit : It} {ctg : Nt} {cifs : Es} {celt : E} {i : Nat} {y : Str} (hl : Nat.ble ifs.length 1 = true) (hok : compOk C scope = true)
    (h1 : trI n C (isTup tg) it = some cit) (h2 : trNt { C with sc := scope } 5 tg = some ctg) (h3 : trL n { C with sc := L2.relS scope C.sc } ifs = some cifs) (h4 : trE n { C with sc := L2.relS scope C.sc } elt = some celt)
    (hy : X.N[i]? = some y) (hyl : X.env.scope.names.lookup y = some .local) (hsw : swapsWith (.ListComp elt [⟨tg, it, ifs, 0⟩] scope pos) (some (.Name y py)) spos.line X.env = pure true) :
    PS X (.Assign [.Name y py] (.ListComp elt [⟨tg, it, ifs, 0⟩] scope pos) spos) (fun D σ H => tEv Z C.cs X W (evE cF cV (.comp ((ownOf C scope).map (·.2)) (cellsOf C scope) ctg cit cifs celt)) σ H fun v H' => D.nx (σ.set i (some v)) H') := by
  refine ⟨fun pins s0 σ H D I hq => ?_⟩
  rw [exec_Assign_Name_used _ _ _ _ hsw]
  refine wpAny_bind (wpAny_standAt (wpAny_bind ?_))
  have nd : X.N.Nodup := by rw [G.N]; exact G.nd
  refine wpAny_bind (L2.thn (comp_core (pos' := firstIterPos [⟨tg, it, ifs, 0⟩] pos) (use := some (assign (.Name y py) X.env)) (Qf := fun _ s' => L2.SP X pins D .next s') ih G tk hl hok h1 h2 h3 h4 I hq fun D' L s' m H' I' q hn f => ?_) fun _ s' z => wpAny_pure (wpAny_pure z))
  obtain ⟨j0, j1, j2, j3, j4, j5⟩ := f
  refine wpAny_assign_Name (L2.store_ok2 (v := V.ref D') I' nd hy (.inl hyl) rfl (fun s2 I2 ⟨a, sa, ha⟩ => ?_) (.inr hyl))
  have hne : L ≠ a := by
    rcases ha with z | z
    · rw [z]; exact j1
    · exact fun q => j4 y a z q.symm
  exact ⟨m, hn.sameBut sa hne, fun h3 sm => ⟨_, H', I2.turned (t' := s2.toks) (fun b o hb q => (sm.2 b hb).trans q) j0 j1 j3 j4 j5, q⟩⟩
end
end Ev
/-! EvH: a lambda is made. -/
namespace Ev
open PySem PySem.Spec PyProof.Rows
open L2 (V HO Hp Cx Inv PE PT PA PS PSs PG PGs PI PW PO PK PTs RelV Vals upd upd_same upd_ne SqL SqT TE TT TA TS TG TGs TI TO WX XK VK Room Takes EP FpOk)
section
variable {Z : Zx} {cs : List Nat} {W : WX} {X : Cx} {σ σ' : L2.St} {g g1 g2 : Gh} {H H1 H2 : Hp} {s s1 s2 s' : S} {en en' : Env} {α β : Type} {K : PySem.W.Frag} {d n : Nat} {C : Ctx} {cF : Nat → List D → S → R D} {cV : D → List D → S → R D}
theorem RelS.table (r : RelS Z g H s) (he : ∀ b u, H b = some u → NotTbl u → H1 b = some u) (ht : LamX.Tabs Z.T H1) : RelS Z g H1 s where
  n := r.n
  m := r.m
  inj := r.inj
  obj := fun k a e => by
    obtain ⟨ob, h1, h2⟩ := r.obj k a e
    obtain ⟨u, h3, h4⟩ := h2.some
    refine ⟨ob, h1, h2.mono ⟨[], by simp⟩ ⟨[], by simp⟩ (fun b u e f => he b u e fun ps z => by rw [z] at f; cases f) ((he _ _ h3 h4).trans h3.symm)⟩
  hi := r.hi
  cel := fun c a ow h1 h2 h3 => (r.cel c a ow h1 h2 h3).mono ⟨[], by simp⟩ (fun b u e f => he b u e fun ps z => by rw [z] at f; cases f)
  chi := r.chi
  cin := r.cin
  tab := ht
/-- what a lambda's making leaves: the object at f, the code object at c' -/
def Made (Z : Zx) (X : Cx) (H H1 : Hp) (f c' : Addr) (o : Obj) (q : Str) : Prop :=
  H f = none ∧ (∀ b u, H b = some u → NotTbl u → H1 b = some u) ∧ (∀ b, H1 b = none → H b = none) ∧ LamX.Tabs Z.T H1 ∧ H1 f = some (FunO f o) ∧ H1 c' = some (LamX.CodeO c' q)
theorem made_lam {pins : List (Addr × Obj)} {s0 : Shared} {c P : Addr} {params : Arguments} {body : Expr} {scope : Scope} {pos : Pos} {E : Value → Shared → Prop} {Q : Value → Shared → Prop} (I : Inv X pins σ H s0) (TB : LamX.TabB X.base X.mg c P) (hcode : X.env.code = .ref c)
    (hm : (P, X.env.qual ++ "<lambda>") ∈ Z.T) (hu : ∀ p ∈ Z.T, p.1 = P → p.2 = X.env.qual ++ "<lambda>") (hT : LamX.Tabs Z.T H) (hdef : defaultsOf params X.env = ([], [])) (hfree : ∀ y ∈ scope.names, y.2 = .free → ∃ c, X.env.cells.lookup y.1 = some c)
    (h : ∀ (f c' : Addr) (pm ctv : Value) (H1 : Hp) (s' : Shared), Inv X pins σ H1 s' → Made Z X H H1 f c' (PySem.W.kla_obj "<lambda>" (X.env.qual ++ "<lambda>") params body scope (L2.cloFrom X.env.cells scope.names []) pm c' ctv) (X.env.qual ++ "<lambda>") → Q (.ref f) s') :
    wpAny (model X.prog X.w) X.A (eval (.Lambda params body scope pos) X.env) Q E s0 := by
  obtain ⟨ps, hP, htr, ha⟩ := hT _ hm
  refine PySem.W.kla_eval hdef ?_
  have bP : s0.heap.BuiltinsAt X.mg P := TB.bm.keeps I.bk
  have oP : s0.heap.get? P = some { cls := .none, data := .fields ps } := I.hok P _ hP
  -- the function's object over a heap in which the code object is known
  have fin : ∀ (H1 : Hp) (s1 : Shared) (c' : Addr) (ctv : Value), Inv X pins σ H1 s1 → s0.heap.objs.size ≤ s1.heap.objs.size → (∀ b u, H b = some u → NotTbl u → H1 b = some u) → (∀ b, H1 b = none → H b = none) → LamX.Tabs Z.T H1 → H1 c' = some (LamX.CodeO c' (X.env.qual ++ "<lambda>")) →
      Q (.ref s1.heap.objs.size) { s1 with heap := s1.heap.push (PySem.W.kla_obj "<lambda>" (X.env.qual ++ "<lambda>") params body scope (L2.cloFrom X.env.cells scope.names []) ((X.mg "__name__").getD .none) c' ctv) } := by
    intro H1 s1 c' ctv I1 hz k1 k2 k3 k4
    have hf : H1 s1.heap.objs.size = none := I1.hok.fresh (Nat.le_refl _)
    have I2 := I1.laid (t' := s1.toks) (a := s1.heap.objs.size) (o := FunO s1.heap.objs.size (PySem.W.kla_obj "<lambda>" (X.env.qual ++ "<lambda>") params body scope (L2.cloFrom X.env.cells scope.names []) ((X.mg "__name__").getD .none) c' ctv))
      (h' := s1.heap.push (PySem.W.kla_obj "<lambda>" (X.env.qual ++ "<lambda>") params body scope (L2.cloFrom X.env.cells scope.names []) ((X.mg "__name__").getD .none) c' ctv)) (fun b o q => Heap.get?_push_of_some _ q) (Nat.le_refl _)
      ⟨Heap.get?_push_size _ rfl, ⟨_, Heap.get?_push_size _ rfl⟩, fun h1 h2 e1 e2 => e2 _ e1⟩
    refine h s1.heap.objs.size c' _ ctv _ _ I2 ⟨k2 _ hf, fun b u q n => ext_new hf b u (k1 b u q n), fun b q => k2 b (ext_dom (ext_new hf) b q), k3.ext (ext_new hf), upd_same, ext_new hf _ _ k4⟩
  cases hc : codeAmong pos ps.toList with
  | none =>
    refine PySem.W.kla_makeFunction (mg := X.mg) (c := c) (P := P) (ps := ps) (L2.closure_ok hfree) I.ok.glob (I.mod.glob.keeps I.bk) hcode (TB.code.keeps I.bk) oP htr hc TB.gP bP fun c' ctv h' tk hx hge hlt hrec htb => ?_
    obtain ⟨c2, oc, vs, t, e2, hoc, hd, hv⟩ := hrec
    cases e2
    have nC : H c' = none := I.hok.fresh hge
    have I1 := LamX.inv_table (t' := tk) (more := #[rawInt pos.line, rawInt pos.col, .ref c']) (h' := h') I hP hx htb hge ⟨oc, vs, t, hoc, hd, hv⟩
    have k1 : ∀ b u, H b = some u → NotTbl u → upd (upd H P (.tbl (ps ++ #[rawInt pos.line, rawInt pos.col, .ref c']))) c' (LamX.CodeO c' (X.env.qual ++ "<lambda>")) b = some u := fun b u q nt => by
      rw [upd_ne (L2.ne_of_none q nC), upd_ne fun z => nt ps (Option.some.inj (q.symm.trans (by rw [z]; exact hP)))]
      exact q
    have eL : (ps ++ #[rawInt pos.line, rawInt pos.col, .ref c']).toList = ps.toList ++ [rawInt pos.line, rawInt pos.col, .ref c'] := by simp
    refine fin _ { s0 with heap := h', toks := tk } c' ctv I1 (Nat.le_trans hge (Nat.le_of_lt hlt)) k1 (fun b q => ?_) (fun p hp => ?_) upd_same
    · by_cases hb : b = c'
      · rw [hb]; exact nC
      · rw [upd_ne hb] at q
        by_cases hb2 : b = P
        · rw [hb2, upd_same] at q; cases q
        · rw [upd_ne hb2] at q; exact q
    · by_cases hb : p.1 = P
      · rw [hu p hp hb, hb]
        refine ⟨_, by rw [upd_ne (L2.ne_of_none hP nC), upd_same], by rw [eL]; exact PySem.TriplesOk_snoc _ _ _ _ htr, fun p' cv hcv => ?_⟩
        rw [eL] at hcv
        rcases LamX.among_app _ htr hcv with z | z
        · obtain ⟨c0, q1, q2⟩ := ha p' cv z
          exact ⟨c0, q1, k1 _ _ q2 LamX.codeO_ne⟩
        · exact ⟨c', z, upd_same⟩
      · obtain ⟨qs, a1, a2, a3⟩ := hT p hp
        refine ⟨qs, by rw [upd_ne (L2.ne_of_none a1 nC), upd_ne hb]; exact a1, a2, fun p' cv hcv => ?_⟩
        obtain ⟨c0, q1, q2⟩ := a3 p' cv hcv
        exact ⟨c0, q1, k1 _ _ q2 LamX.codeO_ne⟩
  | some cv =>
    obtain ⟨c', e, hco⟩ := ha pos cv hc
    subst e
    refine PySem.W.kla_makeFunctionHit (mg := X.mg) (c := c) (P := P) (ps := ps) (L2.closure_ok hfree) I.ok.glob (I.mod.glob.keeps I.bk) hcode (TB.code.keeps I.bk) oP htr hc bP fun ctv h' tk hx hsz => ?_
    exact fin H { s0 with heap := h', toks := tk } c' ctv (I.kept hx) hsz (fun _ _ q _ => q) (fun _ q => q) hT hco
theorem mapO_get {f : α → Option β} : ∀ {as : List α} {bs : List β}, mapO f as = some bs → ∀ {i : Nat} {a : α}, as[i]? = some a → ∃ b, bs[i]? = some b ∧ f a = some b
  | [], _, _, _, _, e => by simp at e
  | x :: as, bs, h, i, a, e => by
    obtain ⟨b, cs, h1, h2, rfl⟩ := mapO_cons h
    cases i with
    | zero => simp at e; subst e; exact ⟨b, rfl, h1⟩
    | succ j =>
      obtain ⟨c, i1, i2⟩ := mapO_get h2 (i := j) (by simpa using e)
      exact ⟨c, by simpa using i1, i2⟩
theorem join_some {o : Option (Option α)} {a : α} (h : o.join = some a) : o = some (some a) := by
  cases o with
  | none => cases h
  | some x => exact congrArg some h
/-- what lamOkB tells -/
structure LamOk (N : List Str) (args : Arguments) (fr : List Str) (sc : Scope) : Prop where
  kind : sc.kind = .function
  co : sc.isCoroutine = false
  gen : sc.isGenerator = false
  nd : N.Nodup
  pre : N.take ((paramsOf args).length + fr.length) = paramsOf args ++ fr
  par : ∀ x ∈ paramsOf args, sc.names.lookup x = some .local
  nocell : ∀ y ∈ sc.names, y.2 ≠ .cell
  cap : ∀ y ∈ sc.names, y.2 = .free → y.1 ∈ fr
  fre : ∀ x ∈ fr, sc.names.lookup x = some .free
  plain : plainArgs args = true
theorem lamOk_of {N : List Str} {args : Arguments} {fr : List Str} {sc : Scope} (h : lamOkB N args fr sc = true) : LamOk N args fr sc := by
  unfold lamOkB at h
  simp only [Bool.and_eq_true, decide_eq_true_eq, Bool.not_eq_true', decide_eq_false_iff_not, List.all_eq_true, Bool.or_eq_true] at h
  obtain ⟨⟨⟨⟨⟨⟨⟨⟨⟨h1, h2⟩, h3⟩, h4⟩, h5⟩, h6⟩, h7⟩, h8⟩, h9⟩, h10⟩ := h
  exact ⟨h1, h2, h3, h4, h5, h6, h7, fun y hy z => (h8 y hy).resolve_left fun q => q z, h9, h10⟩
theorem st_lam (G : Gd Z d C X) {args : Arguments} {body : Expr} {scope : Scope} {pos : Pos} {p : Nat × Nat × List Str × List Str} {cb : E} {js : List Nat} (hp : p ∈ C.lams) (hok : lamOkB p.2.2.1 args p.2.2.2 scope = true) (h1 : trE n (lamC C.T p.2.2.1 scope args p.2.2.2) body = some cb) (h2 : mapO C.slot p.2.2.2 = some js) :
    PE X (.Lambda args body scope pos) (tEv Z C.cs X W (evE cF cV (.lam args.args.length p.2.2.2.length p.2.2.1.length cb js))) := by
  obtain ⟨c, P, hcode, TB, hm, hu⟩ := G.lam fun z => by rw [z] at hp; cases hp
  have lo := lamOk_of hok
  refine ⟨fun pins s0 σ H Q I ⟨g, en, s, r, e, hq⟩ => ?_⟩
  have hq : Fin Z W σ g H s ((ofO s (cellsAt en.ce js)).bind fun cs s => s.alloc (.clo args.args.length p.2.2.2.length p.2.2.1.length cb cs)) (KV Q) := hq
  cases hc : cellsAt en.ce js with
  | none => rw [hc] at hq; exact hq.elim
  | some ids =>
    rw [hc] at hq
    have hq : Fin Z W σ g H s (s.alloc (.clo args.args.length p.2.2.2.length p.2.2.1.length cb ids)) (KV Q) := hq
    -- a captured name's cell
    have cap : ∀ (i : Nat) (x : Str), p.2.2.2[i]? = some x → ∃ c a, ids[i]? = some c ∧ X.env.cells.lookup x = some a ∧ g.ψ[c]? = some a := fun i x hx => by
      obtain ⟨j, i1, i2⟩ := mapO_get h2 hx
      unfold cellsAt at hc
      obtain ⟨c, i3, i4⟩ := mapO_get hc i1
      obtain ⟨y, a, k1, k2, k3, _⟩ := e.cell j c (join_some i4)
      have := (slot_of G i2).1
      rw [this] at k1
      cases k1
      exact ⟨c, a, i3, k2, k3⟩
    have hfree : ∀ y ∈ scope.names, y.2 = .free → ∃ c, X.env.cells.lookup y.1 = some c := fun y hy z => by
      obtain ⟨i, hi, hiy⟩ := List.getElem_of_mem (lo.cap y hy z)
      obtain ⟨c, a, _, k, _⟩ := cap i y.1 (by rw [List.getElem?_eq_getElem hi, hiy])
      exact ⟨a, k⟩
    have clx : ∀ x b, (L2.cloFrom X.env.cells scope.names []).lookup x = some b → X.env.cells.lookup x = some b ∧ x ∈ p.2.2.2 := fun x b hb => by
      rcases L2.cloFrom_mem (PySem.mem_of_lookup hb) with z | ⟨z1, z2⟩
      · cases z
      · obtain ⟨a, ha⟩ := hfree _ z1 rfl
        have ha : X.env.cells.lookup x = some a := ha
        refine ⟨?_, lo.cap _ z1 rfl⟩
        rw [ha] at z2 ⊢
        rw [z2] <;> rfl
    refine made_lam I TB hcode hm hu r.tab (by
      have := lo.plain
      unfold plainArgs at this
      simp only [Bool.and_eq_true, List.isEmpty_iff, Option.isNone_iff_eq_none] at this
      obtain ⟨⟨⟨⟨⟨q1, q2⟩, q3⟩, q4⟩, q5⟩, q6⟩ := this
      obtain ⟨po, ar, va, ko, kd, kw, de⟩ := args
      simp only at q1 q2 q3 q4 q5 q6
      subst q1 q2 q3 q4 q5 q6
      rfl) hfree fun f c' pm ctv H1 s' I1 hM => ⟨.ref f, H1, I1, rfl, ?_⟩
    obtain ⟨m1, m2, m3, m4, m5, m6⟩ := hM
    have nf : f ∉ g.φ := r.notin m1
    have rT := r.table m2 m4
    refine hq { g with φ := g.φ ++ [f] } H1 ⟨⟨[f], rfl⟩, ⟨[], by simp⟩, rfl, (fun a u q k => m2 a u q fun ps z => by rw [z] at k; cases k), fun a u q _ t => m2 a u q t, m3, fun a ha => ?_, Nat.le_refl _, fun _ _ _ => rfl⟩ (rT.adopt nf ?_) (.ref f) (Rep.ref r.ref_new)
    · rcases List.mem_append.mp ha with ha | ha
      · exact .inl ha
      · have := List.mem_singleton.mp ha
        subst this
        exact .inr m1
    · refine ⟨X.env.qual ++ "<lambda>", args, body, scope, _, pm, c', ctv, p.2.2.1, p.2.2.2, n, m5, m6, hok, by rw [← G.T]; exact h1, rfl, rfl, rfl, ?_, fun i x c hx hcx => ?_, fun x y b hx hy => ?_, fun x b hx => (clx x b hx).2⟩
      · unfold cellsAt at hc
        rw [mapO_len hc, mapO_len h2]
      · obtain ⟨c0, a, k1, k2, k3⟩ := cap i x hx
        rw [hcx] at k1
        cases k1
        have hmem : (x, NameKind.free) ∈ scope.names := PySem.mem_of_lookup (lo.fre x (List.mem_of_getElem? hx))
        obtain ⟨b, hb⟩ := L2.mem_lookup (L2.cloFrom_has (cells := X.env.cells) (acc := []) hmem)
        have := (clx x b hb).1
        rw [k2] at this
        cases this
        exact ⟨a, hb, k3⟩
      · exact I.ok.inj x y b (clx x b hx).1 (clx y b hy).1
end
end Ev
/-! EvI: every expression that is translated is read rightly. -/
namespace Ev
open PySem PySem.Spec PyProof.Rows
open L2 (V HO Hp Cx Inv PE PT PA PS PSs PG PGs PI PW PO PK PTs RelV Vals upd upd_same upd_ne SqL SqT TE TT TA TS TG TGs TI TO WX XK VK Room Takes EP FpOk)
section
variable {Z : Zx} {cs : List Nat} {W : WX} {X : Cx} {σ σ' : L2.St} {g g1 g2 : Gh} {H H1 H2 : Hp} {s s1 s2 s' : S} {en en' : Env} {α β : Type} {K : PySem.W.Frag} {d n : Nat} {C : Ctx} {cF : Nat → List D → S → R D} {cV : D → List D → S → R D}
/-- the two readings of zip(*x) -/
structure ZipOk (Z : Zx) : Prop where
  pe : ∀ (d : Nat) (C : Ctx) (X : Cx) (W : WX), Gd Z d C X → ∀ (a : Expr) (f : Env → S → R D) (p p2 sp p3 pos : Pos), PE X a (tEv Z C.cs X W f) → L2.Gl X "zip" → X.mg "zip" = none → L2.Gl X "tuple" → X.mg "tuple" = none →
    PE X (.Call (.Name "tuple" p) [.Call (.Name "zip" p2) [.Starred a sp] [] p3] [] pos) (tEv Z C.cs X W fun en s => (f en s).bind fun w s => zipTW s w)
theorem pt_ifExp {c a b : Expr} {pos : Pos} {tc ta tb : TT} (hc : PT X c tc) (ha : PT X a ta) (hb : PT X b tb) : PT X (.IfExp c a b pos) (fun σ H Q => tc σ H fun k H1 => if k = true then ta σ H1 Q else tb σ H1 Q) := by
  refine ⟨fun pins s σ H Q I h => PyProof.Rows.isTrue_IfExp (L2.thn (hc.run pins s σ H _ I h) fun k s1 ⟨H1, I1, q1⟩ => ?_)⟩
  cases k with
  | true => exact ha.run pins s1 σ H1 Q I1 q1
  | false => exact hb.run pins s1 σ H1 Q I1 q1
theorem chain_bl {o p : Co} {a b c : E} {w : D} {s' : S} (h : evE cF cV (.chain o p a b c) en s = .ok w s') : ∃ k, w = .bl k := by
  rw [evE] at h
  obtain ⟨x, s1, _, h⟩ := bind_ok_of h
  obtain ⟨y, s2, _, h⟩ := bind_ok_of h
  obtain ⟨z, s3, h3, h⟩ := bind_ok_of h
  obtain ⟨k, rfl⟩ := cmpW_bl h3
  cases k with
  | true =>
    obtain ⟨t, s4, _, h⟩ := bind_ok_of h
    exact cmpW_bl h
  | false => cases h; exact ⟨false, rfl⟩
theorem nl_co {op : CmpOp} {o : Co} (h : trNl op = some o) : trCo op = some o := by
  cases op <;> cases h <;> rfl
theorem nilW_bl {o : Co} {x w : D} (h : nilW o s x = .ok w s') : ∃ b, w = .bl b := by
  unfold nilW at h
  split at h <;> (repeat' split at h) <;> first | (cases h; exact ⟨_, rfl⟩) | cases h
/-- against a new list that holds nothing, which then stands aside -/
theorem nil_is (K : PySem.W.Frag) {op : CmpOp} {o : Co} (ho : trNl op = some o) {x : D} {v : V} {p : Addr} {Q : VK} (r : RelS Z g H s) (hx : Rep g.φ H x v) (hp : H p = none) (h : Fin Z W σ g H s (nilW o s x) (KV Q)) : rCmp K o v (.ref p) (upd H p (.lst [])) Q := by
  have he : ∀ b u, H b = some u → (upd H p (.lst [])) b = some u := ext_new hp
  have r2 := r.aside he
  unfold nilW at h
  cases e : toD s 40 x with
  | none => simp only [e] at h; exact h.elim
  | some d =>
    simp only [e] at h
    obtain ⟨a1, a2, a3⟩ := toD_is (K := K) r2 40 x v d e (Rep.mono ⟨[], by simp⟩ (fun b ys e => he b _ e) _ _ hx)
    have b1 : L2.Dp K (upd H p (.lst [])) (.ref p) (.list []) := .lst (.inl (.inl upd_same)) .nil
    cases op <;> cases ho
    · exact ⟨d, _, a1, b1, shaped_of a2 a3, rfl, h g _ (After.aside he) r2 _ (Rep.bl _)⟩
    · exact ⟨d, _, a1, b1, shaped_of a2 a3, rfl, h g _ (After.aside he) r2 _ (Rep.bl _)⟩
theorem st_pe (zo : Zok Z) (hz : ZipOk Z) (ih : IHE Z d cF cV n) (G : Gd Z d C X) (tk : Takes X W) {e : Expr} {c : E} (h : trE (n + 1) C e = some c) :
    PE X e (tEv Z C.cs X W (evE cF cV c)) ∧ PT X e (tTv Z C.cs X W fun en s => (evE cF cV c en s).bind fun x s => truthR s x) := by
  unfold trE at h
  split at h
  · cases h
    exact both (pe_const L2.pe_int (fun _ _ => Rep.int _) _ fun _ _ => rfl) fun _ => rfl
  · cases h
    exact both (pe_const L2.pe_bl (fun _ _ => Rep.bl _) _ fun _ _ => rfl) fun _ => rfl
  · cases h
    exact both (pe_const L2.pe_non (fun _ _ => Rep.non) _ fun _ _ => rfl) fun _ => rfl
  · cases h
    exact both (pe_const L2.pe_str (fun _ _ => Rep.str _) _ fun _ _ => rfl) fun _ => rfl
  · rename_i x p
    cases h0 : C.slot x with
    | none => rw [h0] at h; cases h
    | some i =>
      rw [h0] at h
      cases h
      exact both (pe_var_of G h0) fun _ => rfl
  · rename_i es k p
    cases h1 : trL n C es with
    | none => rw [h1] at h; cases h
    | some as =>
      rw [h1] at h
      cases h
      refine both (pe_imp (L2.pe_tup (ih.pa C X W G tk es as h1)) fun σ H Q ⟨g, en, s, r, e, q⟩ => ?_) fun _ => rfl
      refine tAv_seq r e q fun vs H1 ws s1 g1 r1 e1 a1 hw q1 => ?_
      unfold newT at q1
      obtain ⟨hb, q1⟩ := fin_guard q1
      exact ⟨by rw [← hw.len]; exact okLine_le hb, fun p hp => fin_tup r1 q1 hw hp⟩
  · rename_i es p
    cases h1 : trL n C es with
    | none => rw [h1] at h; cases h
    | some as =>
      rw [h1] at h
      cases h
      refine both (pe_imp (L2.pe_lst (ih.pa C X W G tk es as h1)) fun σ H Q ⟨g, en, s, r, e, q⟩ => ?_) fun _ => rfl
      refine tAv_seq r e q fun vs H1 ws s1 g1 r1 e1 a1 hw q1 => ?_
      unfold S.newL at q1
      obtain ⟨hb, q1⟩ := fin_guard q1
      exact ⟨by rw [← hw.len]; exact okLine_le hb, fun p hp => fin_new r1 q1 hw hp⟩
  · cases h
    refine both (pe_imp L2.pe_dnewK fun σ H Q ⟨g, en, s, r, e, q⟩ => fun p hp => ?_) fun _ => rfl
    exact q _ _ (After.alloc (ext_new hp) hp) (r.alloc (ext_new hp) hp ⟨[], upd_same, .nil⟩) _ (Rep.ref r.ref_new)
  · rename_i a o b p
    cases h1 : trE n C a with
    | none => simp only [h1] at h; cases h
    | some ca =>
      cases h2 : trBo o with
      | none => simp only [h1, h2] at h; cases h
      | some bo =>
        cases h3 : trE n C b with
        | none => simp only [h1, h2, h3] at h; cases h
        | some cb =>
          simp only [h1, h2, h3] at h
          cases h
          refine both (pe_imp (L2.pe_op (bin_op h2) (ih.pe C X W G tk a ca h1).1 (ih.pe C X W G tk b cb h3).1) fun σ H Q ⟨g, en, s, r, e, q⟩ => ?_) fun _ => rfl
          refine tEv_seq r e q fun v H1 x s1 g1 r1 e1 a1 hx q1 => ?_
          refine tEv_seq r1 e1 q1 fun u H2 y s2 g2 r2 e2 a2 hy q2 => ?_
          exact bin_is X.K bo Z W σ g2 H2 s2 x y v u Q r2 (a2.rep hx) hy q2
  · rename_i a p
    cases h1 : trE n C a with
    | none => rw [h1] at h; cases h
    | some ca =>
      rw [h1] at h
      cases h
      refine both (pe_imp (L2.pe_un L2.un_neg (ih.pe C X W G tk a ca h1).1) fun σ H Q ⟨g, en, s, r, e, q⟩ => ?_) fun _ => rfl
      refine tEv_seq r e q fun v H1 x s1 g1 r1 e1 a1 hx q1 => ?_
      unfold negW at q1
      split at q1
      · rw [rep_int hx]
        exact ⟨_, rfl, fin_val r1 q1 (Rep.int _)⟩
      · exact q1.elim
  · rename_i a p
    cases h1 : trE n C a with
    | none => rw [h1] at h; cases h
    | some ca =>
      rw [h1] at h
      cases h
      obtain ⟨p1, p2⟩ := ih.pe C X W G tk a ca h1
      refine ⟨pe_imp (L2.pe_notT p1) fun σ H Q ⟨g, en, s, r, e, q⟩ => ?_, pt_imp (L2.pt_not p2) fun σ H Q ⟨g, en, s, r, e, q⟩ => ?_⟩
      · refine tEv_seq r e q fun v H1 x s1 g1 r1 e1 a1 hx q1 => ?_
        obtain ⟨a2, r2, q2⟩ : After [] g1 H1 s1 g1 H1 s1 ∧ RelS Z g1 H1 s1 ∧ True := ⟨After.refl _ _ _ _, r1, trivial⟩
        cases ht : truth s1 x with
        | none => unfold truthR at q1; simp only [ht] at q1; exact q1.elim
        | some b =>
          unfold truthR at q1
          simp only [ht] at q1
          exact ⟨b, truth_is r1 ht hx, fin_val r1 q1 (Rep.bl _)⟩
      · have q : Fin Z W σ g H s (((evE cF cV ca en s).bind fun x s => truthR s x).bind fun b s => .ok (!b) s) (fun b s' g' H' => Q b H') := by
          have : ((evE cF cV (.not ca) en s).bind fun x s => truthR s x) = (((evE cF cV ca en s).bind fun x s => truthR s x).bind fun b s => .ok (!b) s) := by
            rw [evE]
            cases evE cF cV ca en s with
            | ok x s' =>
              simp only [R.bind_ok]
              unfold truthR
              cases truth s' x <;> rfl
            | _ => rfl
          rw [← this]; exact q
        exact tTv_seq r e q fun b H1 s1 g1 r1 e1 a1 q1 => fin_ok (K := fun b s' g' H' => Q b H') r1 q1
  · rename_i a o k p
    cases h1 : trE n C a with
    | none => simp only [h1] at h; cases h
    | some ca =>
      cases h2 : trNl o with
      | none => simp only [h1, h2] at h; cases h
      | some co =>
        simp only [h1, h2] at h
        cases h
        have h2' := nl_co h2
        have pa := (ih.pe C X W G tk a ca h1).1
        have op := cmp_op (X := X) (units_of G) h2'
        refine ⟨pe_imp (L2.pe_cmpR op pa (L2.pe_lst L2.pa_nil) (co_nomark h2' _)) fun σ H Q ⟨g, en, s, r, e, q⟩ => ?_, pt_imp (L2.pt_cmpR op pa (L2.pe_lst L2.pa_nil) (co_nomark h2' _)) fun σ H Q ⟨g, en, s, r, e, q⟩ => ?_⟩
        · refine tEv_seq r e q fun v H1 x s1 g1 r1 e1 a1 hx q1 => ?_
          exact ⟨Nat.zero_le _, fun q hq => nil_is X.K h2 r1 hx hq q1⟩
        · have q : Fin Z W σ g H s ((evE cF cV ca en s).bind fun x s => (nilW co s x).bind fun x s => truthR s x) (fun b s' g' H' => Q b H') := by
            have : ((evE cF cV (.nilc co ca) en s).bind fun x s => truthR s x) = ((evE cF cV ca en s).bind fun x s => (nilW co s x).bind fun x s => truthR s x) := by
              rw [evE, R.bind_assoc]
            rw [← this]; exact q
          refine tEv_seq r e q fun v H1 x s1 g1 r1 e1 a1 hx q1 => ?_
          refine ⟨Nat.zero_le _, fun q hq => ?_⟩
          refine nil_is (W := W) (σ := σ) X.K h2 r1 hx hq ?_
          cases hn : nilW co s1 x with
          | bad => rw [hn] at q1; exact q1
          | ex c ws s' => rw [hn] at q1; exact q1
          | ok w s' =>
            obtain ⟨b, rfl⟩ := nilW_bl hn
            rw [hn] at q1
            have q1 : Fin Z W σ g1 H1 s1 (.ok b s') (fun b s' g' H' => Q b H') := q1
            intro g' H' a r' v hv
            rw [rep_bl hv]
            exact ⟨b, rfl, q1 g' H' a r'⟩
  · rename_i a o b p _
    cases h1 : trE n C a with
    | none => simp only [h1] at h; cases h
    | some ca =>
      cases h2 : trCo o with
      | none => simp only [h1, h2] at h; cases h
      | some co =>
        cases h3 : trE n C b with
        | none => simp only [h1, h2, h3] at h; cases h
        | some cb =>
          simp only [h1, h2, h3] at h
          cases h
          have pa := (ih.pe C X W G tk a ca h1).1
          have pb := (ih.pe C X W G tk b cb h3).1
          have op := cmp_op (X := X) (units_of G) h2
          refine ⟨pe_imp (L2.pe_cmpR op pa pb (co_nomark h2 b)) fun σ H Q ⟨g, en, s, r, e, q⟩ => ?_, pt_imp (L2.pt_cmpR op pa pb (co_nomark h2 b)) fun σ H Q ⟨g, en, s, r, e, q⟩ => ?_⟩
          · refine tEv_seq r e q fun v H1 x s1 g1 r1 e1 a1 hx q1 => ?_
            refine tEv_seq r1 e1 q1 fun u H2 y s2 g2 r2 e2 a2 hy q2 => ?_
            exact cmp_is X.K co Z W σ g2 H2 s2 x y v u Q r2 (a2.rep hx) hy q2
          · have q : Fin Z W σ g H s ((evE cF cV ca en s).bind fun x s => (evE cF cV cb en s).bind fun y s => (cmpW co s x y).bind fun x s => truthR s x) (fun b s' g' H' => Q b H') := by
              have : ((evE cF cV (.cmp co ca cb) en s).bind fun x s => truthR s x) = ((evE cF cV ca en s).bind fun x s => (evE cF cV cb en s).bind fun y s => (cmpW co s x y).bind fun x s => truthR s x) := by
                rw [evE, R.bind_assoc]
                congr 1
                funext x s
                rw [R.bind_assoc]
              rw [← this]; exact q
            refine tEv_seq r e q fun v H1 x s1 g1 r1 e1 a1 hx q1 => ?_
            refine tEv_seq r1 e1 q1 fun u H2 y s2 g2 r2 e2 a2 hy q2 => ?_
            exact cmp_test r2 (a2.rep hx) hy q2
  · rename_i a o o2 b b2 p
    cases h1 : trE n C a with
    | none => simp only [h1] at h; cases h
    | some ca =>
      cases h2 : trCo o with
      | none => simp only [h1, h2] at h; cases h
      | some co =>
        cases h3 : trE n C b with
        | none => simp only [h1, h2, h3] at h; cases h
        | some cb =>
          cases h4 : trCo o2 with
          | none => simp only [h1, h2, h3, h4] at h; cases h
          | some co2 =>
            cases h5 : trE n C b2 with
            | none => simp only [h1, h2, h3, h4, h5] at h; cases h
            | some cc =>
              simp only [h1, h2, h3, h4, h5] at h
              cases h
              have pa := (ih.pe C X W G tk a ca h1).1
              have pb := (ih.pe C X W G tk b cb h3).1
              have pc := (ih.pe C X W G tk b2 cc h5).1
              have op := cmp_op (X := X) (units_of G) h2
              have op2 := cmp_op (X := X) (units_of G) h4
              have key : ∀ {σ : L2.St} {H : Hp} {Q : VK}, tEv Z C.cs X W (evE cF cV (.chain co co2 ca cb cc)) σ H Q → L2.tChain (rCmp X.K co) (rCmp X.K co2) (tEv Z C.cs X W (evE cF cV ca)) (tEv Z C.cs X W (evE cF cV cb)) (tEv Z C.cs X W (evE cF cV cc)) σ H Q := by
                intro σ H Q ⟨g, en, s, r, e, q⟩
                refine tEv_seq r e q fun v H1 x s1 g1 r1 e1 a1 hx q1 => ?_
                refine tEv_seq r1 e1 q1 fun u H2 y s2 g2 r2 e2 a2 hy q2 => ?_
                refine cmp_is X.K co Z W σ g2 H2 s2 x y v u _ r2 (a2.rep hx) hy ?_
                have q2 : Fin Z W σ g2 H2 s2 ((cmpW co s2 x y).bind fun r s => match r with
                  | .bl true => (evE cF cV cc en s).bind fun z s => cmpW co2 s y z
                  | .bl false => .ok (.bl false) s
                  | _ => .bad) (KV Q) := q2
                cases hc : cmpW co s2 x y with
                | bad => rw [hc] at q2; exact q2
                | ex _ _ _ => rw [hc] at q2; exact q2
                | ok w s3 =>
                  rw [hc] at q2
                  obtain ⟨k, rfl⟩ := cmpW_bl hc
                  intro g3 H3 a3 r3 z hz
                  rw [rep_bl hz]
                  refine ⟨k, rfl, ?_⟩
                  cases k with
                  | true =>
                    have q3 : Fin Z W σ g2 H2 s2 ((evE cF cV cc en s3).bind fun z s => cmpW co2 s y z) (KV Q) := q2
                    rw [if_pos rfl]
                    refine tEv_seq r3 (e2.after r2.m a3) (Fin.rebase a3 q3) fun t H4 z4 s4 g4 r4 e4 a4 h4 q4 => ?_
                    exact cmp_is X.K co2 Z W σ g4 H4 s4 y z4 u t Q r4 (a4.rep (a3.rep hy)) h4 q4
                  | false =>
                    have q3 : Fin Z W σ g2 H2 s2 (.ok (.bl false) s3) (KV Q) := q2
                    rw [if_neg (by decide)]
                    exact fin_val r3 (Fin.rebase a3 q3) (Rep.bl _)
              refine ⟨pe_imp (L2.pe_chain op op2 pa pb pc (co_nomark h4 b2)) fun σ H Q q => key q, pt_imp (L2.pt_chain op op2 pa pb pc (co_nomark h4 b2)) fun σ H Q ⟨g, en, s, r, e, q⟩ => ?_⟩
              refine key ⟨g, en, s, r, e, ?_⟩
              cases hr : evE cF cV (.chain co co2 ca cb cc) en s with
              | bad => simp only [hr] at q; exact q
              | ex _ _ _ => simp only [hr] at q; exact q
              | ok w s1 =>
                obtain ⟨k, rfl⟩ := chain_bl hr
                simp only [hr] at q
                have q : Fin Z W σ g H s (.ok k s1) (fun b s' g' H' => Q b H') := q
                intro g' H' a' r' v hv
                rw [rep_bl hv]
                exact ⟨k, rfl, q g' H' a' r'⟩
  · exact ⟨(ih.an C X W G tk _ c _ h).1, (ih.an C X W G tk _ c _ h).2.pt⟩
  · exact ⟨(ih.or C X W G tk _ c _ h).1, (ih.or C X W G tk _ c _ h).2.pt⟩
  · rename_i c0 a b p
    cases h1 : trE n C c0 with
    | none => simp only [h1] at h; cases h
    | some cc =>
      cases h2 : trE n C a with
      | none => simp only [h1, h2] at h; cases h
      | some ca =>
        cases h3 : trE n C b with
        | none => simp only [h1, h2, h3] at h; cases h
        | some cb =>
          simp only [h1, h2, h3] at h
          cases h
          obtain ⟨_, pc⟩ := ih.pe C X W G tk c0 cc h1
          obtain ⟨pa1, pa2⟩ := ih.pe C X W G tk a ca h2
          obtain ⟨pb1, pb2⟩ := ih.pe C X W G tk b cb h3
          refine ⟨pe_imp (L2.pe_ifExp pc pa1 pb1) fun σ H Q ⟨g, en, s, r, e, q⟩ => ?_, pt_imp (pt_ifExp pc pa2 pb2) fun σ H Q ⟨g, en, s, r, e, q⟩ => ?_⟩
          · have q : Fin Z W σ g H s (((evE cF cV cc en s).bind fun x s => truthR s x).bind fun k s => bif k then evE cF cV ca en s else evE cF cV cb en s) (KV Q) := by
              rw [R.bind_assoc]; exact q
            refine tTv_seq r e q fun k H1 s1 g1 r1 e1 a1 q1 => ?_
            cases k with
            | true => exact ⟨g1, en, s1, r1, e1, q1⟩
            | false => exact ⟨g1, en, s1, r1, e1, q1⟩
          · have q : Fin Z W σ g H s (((evE cF cV cc en s).bind fun x s => truthR s x).bind fun k s => bif k then (evE cF cV ca en s).bind fun x s => truthR s x else (evE cF cV cb en s).bind fun x s => truthR s x) (fun b s' g' H' => Q b H') := by
              have : ((evE cF cV (.ite cc ca cb) en s).bind fun x s => truthR s x) = (((evE cF cV cc en s).bind fun x s => truthR s x).bind fun k s => bif k then (evE cF cV ca en s).bind fun x s => truthR s x else (evE cF cV cb en s).bind fun x s => truthR s x) := by
                rw [evE]
                cases evE cF cV cc en s with
                | ok x s' =>
                  simp only [R.bind_ok]
                  unfold truthR
                  cases truth s' x with
                  | none => rfl
                  | some k => cases k <;> rfl
                | _ => rfl
              rw [← this]; exact q
            refine tTv_seq r e q fun k H1 s1 g1 r1 e1 a1 q1 => ?_
            cases k with
            | true => exact ⟨g1, en, s1, r1, e1, q1⟩
            | false => exact ⟨g1, en, s1, r1, e1, q1⟩
  · exact both (ih.sb C X W G tk _ _ c _ h) fun _ => rfl
  · exact both (ih.ca C X W G tk _ _ _ c _ h) fun _ => rfl
  · rename_i elt tg it ifs ia scope p
    cases hb : (decide (ia = 0) && Nat.ble ifs.length 1 && compOk C scope) with
    | false => rw [hb] at h; cases h
    | true =>
      rw [hb] at h
      simp only [cond_true] at h
      simp only [Bool.and_eq_true, decide_eq_true_eq] at hb
      obtain ⟨⟨rfl, hl⟩, hok⟩ := hb
      cases h1 : trI n C (isTup tg) it with
      | none => simp only [h1] at h; cases h
      | some cit =>
        cases h2 : trNt { C with sc := scope } 5 tg with
        | none => simp only [h1, h2] at h; cases h
        | some ctg =>
          cases h3 : trL n { C with sc := L2.relS scope C.sc } ifs with
          | none => simp only [h1, h2, h3] at h; cases h
          | some cifs =>
            cases h4 : trE n { C with sc := L2.relS scope C.sc } elt with
            | none => simp only [h1, h2, h3, h4] at h; cases h
            | some ce =>
              simp only [h1, h2, h3, h4] at h
              cases h
              exact both (st_comp ih G tk hl hok h1 h2 h3 h4) fun _ => rfl
  · rename_i args body scope p
    cases h0 : C.lams.find? (fun q => Nat.beq q.1 p.line && Nat.beq q.2.1 p.col) with
    | none => simp only [h0] at h; cases h
    | some q =>
      simp only [h0] at h
      cases hb : lamOkB q.2.2.1 args q.2.2.2 scope with
      | false => rw [hb] at h; cases h
      | true =>
        rw [hb] at h
        simp only [cond_true] at h
        cases h1 : trE n (lamC C.T q.2.2.1 scope args q.2.2.2) body with
        | none => simp only [h1] at h; cases h
        | some cb =>
          cases h2 : mapO C.slot q.2.2.2 with
          | none => simp only [h1, h2] at h; cases h
          | some js =>
            simp only [h1, h2] at h
            cases h
            exact both (st_lam G (List.mem_of_find?_eq_some h0) hb h1 h2) fun _ => rfl
  · cases h
theorem ihe_zero : IHE Z d cF cV 0 where
  pe := fun C X W G tk e c h => by unfold trE at h; cases h
  pa := fun C X W G tk e c h => by unfold trL at h; cases h
  pk := fun C X W G tk e c h => by unfold trL at h; cases h
  ts := fun C X W G tk e c _ h => by unfold trL at h; cases h
  an := fun C X W G tk e c _ h => by unfold trAnd at h; cases h
  or := fun C X W G tk e c _ h => by unfold trOr at h; cases h
  sb := fun C X W G tk a i c _ h => by unfold trSub at h; cases h
  ca := fun C X W G tk f es ks c p h => by unfold trCall at h; cases h
  df := fun C X W G tk x p f es ks c q _ _ h => by unfold trDef at h; cases h
  bu := fun C X W G tk x p es c q _ h => by unfold trBu at h; cases h
  po := fun C X W G tk e c h => by unfold trO at h; cases h
  pi := fun C X W G tk tg e c h => by unfold trI at h; cases h
/-- EVERY TRANSLATED EXPRESSION IS READ RIGHTLY -/
theorem ihe_all (zo : Zok Z) (hz : ZipOk Z) (hcall : CallP Z d cF) (hval : ValP Z d cV) : ∀ n, IHE Z d cF cV n
  | 0 => ihe_zero
  | n + 1 =>
    have ih := ihe_all zo hz hcall hval n
    { pe := fun C X W G tk e c h => st_pe zo hz ih G tk h
      pa := fun C X W G tk e c h => st_pa ih G tk h
      pk := fun C X W G tk e c h => st_pk ih G tk h
      ts := fun C X W G tk e c hl h => st_ts ih G tk hl h
      an := fun C X W G tk e c p h => st_and ih G tk h
      or := fun C X W G tk e c p h => st_or ih G tk h
      sb := fun C X W G tk a i c p h => st_sb ih G tk h
      ca := fun C X W G tk f es ks c p h => st_ca zo hval ih G tk h
      df := fun C X W G tk x p f es ks c q hg hf h => st_df zo hcall ih G tk hg hf h
      bu := fun C X W G tk x p es c q hb h => st_bu zo ih G tk (fun a f p p2 sp p3 pos k1 k2 k3 k4 k5 => hz.pe d C X W G a f p p2 sp p3 pos k1 k2 k3 k4 k5) hb h
      po := fun C X W G tk e c h => st_po ih G tk h
      pi := fun C X W G tk tg e c h => st_pi zo ih G tk h }
end
end Ev
/-! EvJ: statements: the readings, stores. -/
namespace Ev
open PySem PySem.Spec PyProof.Rows
open L2 (V HO Hp Cx Inv PE PT PA PS PSs PG PGs PI PW PO PK PTs RelV Vals upd upd_same upd_ne SqL SqT TE TT TA TS TG TGs TI TO WX XK VK Room Takes EP FpOk Ends)
section
variable {Z : Zx} {cs : List Nat} {W : WX} {X : Cx} {σ σ' : L2.St} {g g1 g2 : Gh} {H H1 H2 : Hp} {s s1 s2 s' : S} {en en' : Env} {α β : Type} {K : PySem.W.Frag} {d n : Nat} {C : Ctx} {cF : Nat → List D → S → R D} {cV : D → List D → S → R D} {D' : Ends}
/-- the slots are as many as the names, each cell stands at one slot -/
def Wf (X : Cx) (σ : L2.St) (en : Env) : Prop := σ.length = X.N.length ∧ ∀ (i j c : Nat), en.ce[i]? = some (some c) → en.ce[j]? = some (some c) → i = j
/-- what is wanted behind a statement -/
def FlK (Z : Zx) (cs : List Nat) (X : Cx) (D' : Ends) (g : Gh) (H : Hp) (s : S) (ce : List (Option Nat)) (f : Fl) (s' : S) : Prop := match f with
  | .nx en' => ∀ g' H' σ', After g.lv g H s g' H' s' → RelS Z g' H' s' → RelE cs X g' H' σ' en' s' → Wf X σ' en' → en'.ce = ce → D'.nx σ' H'
  | .bk en' => ∀ g' H' σ', After g.lv g H s g' H' s' → RelS Z g' H' s' → RelE cs X g' H' σ' en' s' → Wf X σ' en' → en'.ce = ce → D'.bk σ' H'
  | .ct en' => ∀ g' H' σ', After g.lv g H s g' H' s' → RelS Z g' H' s' → RelE cs X g' H' σ' en' s' → Wf X σ' en' → en'.ce = ce → D'.ct σ' H'
  | .rt w => ∀ g' H' v, After g.lv g H s g' H' s' → RelS Z g' H' s' → Rep g'.φ H' w v → D'.rt v H'
def FinS (Z : Zx) (cs : List Nat) (X : Cx) (W : WX) (D' : Ends) (g : Gh) (H : Hp) (s : S) (ce : List (Option Nat)) (r : R Fl) : Prop := match r with
  | .ok f s' => FlK Z cs X D' g H s ce f s'
  | .ex c ws s' => ∀ σ' cls d H', ExK Z g.lv g H s c ws s' cls d H' → W cls d σ' H'
  | .bad => False
def tSv (Z : Zx) (cs : List Nat) (X : Cx) (W : WX) (f : Env → S → R Fl) : TS := fun D' σ H => ∃ g en s, RelS Z g H s ∧ RelE cs X g H σ en s ∧ Wf X σ en ∧ FinS Z cs X W D' g H s en.ce (f en s)
theorem ps_imp {st : Stmt} {t t' : TS} (h : PS X st t) (hi : ∀ D' σ H, t' D' σ H → t D' σ H) : PS X st t' := ⟨fun pins s σ H D' I hw => h.run pins s σ H D' I (hi _ _ _ hw)⟩
theorem pss_imp {st : List Stmt} {t t' : TS} (h : PSs X st t) (hi : ∀ D' σ H, t' D' σ H → t D' σ H) : PSs X st t' := ⟨fun pins s σ H D' I hw => h.run pins s σ H D' I (hi _ _ _ hw)⟩
theorem FlK.rebase {ce : List (Option Nat)} {f : Fl} {s' : S} (a : After g.lv g H s g1 H1 s1) (h : FlK Z cs X D' g H s ce f s') : FlK Z cs X D' g1 H1 s1 ce f s' := by
  have hl : g1.lv = g.lv := a.lv
  cases f with
  | nx en' => exact fun g' H' σ' a' r' e' w' c' => h g' H' σ' (a.trans (hl ▸ a')) r' e' w' c'
  | bk en' => exact fun g' H' σ' a' r' e' w' c' => h g' H' σ' (a.trans (hl ▸ a')) r' e' w' c'
  | ct en' => exact fun g' H' σ' a' r' e' w' c' => h g' H' σ' (a.trans (hl ▸ a')) r' e' w' c'
  | rt w => exact fun g' H' v a' r' hv => h g' H' v (a.trans (hl ▸ a')) r' hv
theorem FinS.rebase {ce : List (Option Nat)} {r : R Fl} (a : After g.lv g H s g1 H1 s1) (h : FinS Z cs X W D' g H s ce r) : FinS Z cs X W D' g1 H1 s1 ce r := by
  cases r with
  | ok f s' => exact FlK.rebase a h
  | ex c ws s' =>
    have hl : g1.lv = g.lv := a.lv
    exact fun σ' cls d H' e => h σ' cls d H' (by rw [hl] at e; exact e.rebase a)
  | bad => exact h
theorem After.up0 (a : After [] g H s g1 H1 s1) : After g.lv g H s g1 H1 s1 := a.up fun c hc => absurd hc (by simp)
theorem ExK.up {L L' : List Nat} (hl : ∀ c ∈ L, c ∈ L') {c : Nat} {ws : List D} {s' : S} {cls : Value} {d : Option Addr} {H' : Hp} (h : ExK Z L g H s c ws s' cls d H') : ExK Z L' g H s c ws s' cls d H' := by
  obtain ⟨h1, g', h2, h3⟩ := h
  exact ⟨h1, g', h2.up hl, h3⟩
/-- an expression in a statement -/
theorem FinS.bind {ce : List (Option Nat)} {r : R α} {f : α → S → R Fl} (h : FinS Z cs X W D' g H s ce (r.bind f)) : Fin Z W σ g H s r (fun x s1 g1 H1 => After [] g H s g1 H1 s1 ∧ RelS Z g1 H1 s1 ∧ FinS Z cs X W D' g1 H1 s1 ce (f x s1)) := by
  cases r with
  | ok x s1 => exact fun g' H' a r' => ⟨a, r', FinS.rebase (r := f x s1) a.up0 h⟩
  | ex c ws s' => exact fun cls d H' e => h σ cls d H' (e.up fun c hc => absurd hc (by simp))
  | bad => exact h
theorem sEv_seq {f : Env → S → R D} {k : D → S → R Fl} {ce : List (Option Nat)} {Q : VK} (r : RelS Z g H s) (e : RelE cs X g H σ en s) (h : FinS Z cs X W D' g H s ce ((f en s).bind k))
    (hq : ∀ v H1 x s1 g1, RelS Z g1 H1 s1 → RelE cs X g1 H1 σ en s1 → After [] g H s g1 H1 s1 → Rep g1.φ H1 x v → FinS Z cs X W D' g1 H1 s1 ce (k x s1) → Q v H1) : tEv Z cs X W f σ H Q :=
  ⟨g, en, s, r, e, (FinS.bind h).mono fun x s1 g1 H1 ⟨a, r1, h1⟩ v hv => hq v H1 x s1 g1 r1 (e.after r.m a) a hv h1⟩
theorem sAv_seq {f : Env → S → R (List D)} {k : List D → S → R Fl} {ce : List (Option Nat)} {Q : List V → Hp → Prop} (r : RelS Z g H s) (e : RelE cs X g H σ en s) (h : FinS Z cs X W D' g H s ce ((f en s).bind k))
    (hq : ∀ vs H1 xs s1 g1, RelS Z g1 H1 s1 → RelE cs X g1 H1 σ en s1 → After [] g H s g1 H1 s1 → Reps g1.φ H1 xs vs → FinS Z cs X W D' g1 H1 s1 ce (k xs s1) → Q vs H1) : tAv Z cs X W f σ H Q :=
  ⟨g, en, s, r, e, (FinS.bind h).mono fun x s1 g1 H1 ⟨a, r1, h1⟩ v hv => hq v H1 x s1 g1 r1 (e.after r.m a) a hv h1⟩
theorem sTv_seq {f : Env → S → R Bool} {k : Bool → S → R Fl} {ce : List (Option Nat)} {Q : Bool → Hp → Prop} (r : RelS Z g H s) (e : RelE cs X g H σ en s) (h : FinS Z cs X W D' g H s ce ((f en s).bind k))
    (hq : ∀ b H1 s1 g1, RelS Z g1 H1 s1 → RelE cs X g1 H1 σ en s1 → After [] g H s g1 H1 s1 → FinS Z cs X W D' g1 H1 s1 ce (k b s1) → Q b H1) : tTv Z cs X W f σ H Q :=
  ⟨g, en, s, r, e, (FinS.bind h).mono fun x s1 g1 H1 ⟨a, r1, h1⟩ => hq x H1 s1 g1 r1 (e.after r.m a) a h1⟩
/-- on, with the slots as they are -/
theorem fl_nx {ce : List (Option Nat)} (r : RelS Z g H s) (e : RelE cs X g H σ en s) (w : Wf X σ en) (hc : en.ce = ce) (h : FinS Z cs X W D' g H s ce (.ok (.nx en) s)) : D'.nx σ H := h g H σ (After.refl _ _ _ _) r e w hc
theorem fl_rt {ce : List (Option Nat)} {w : D} {v : V} (r : RelS Z g H s) (h : FinS Z cs X W D' g H s ce (.ok (.rt w) s)) (hv : Rep g.φ H w v) : D'.rt v H := h g H v (After.refl _ _ _ _) r hv

/-! ### targets -/
/-- what is asked of a def's body -/
structure Gs (Z : Zx) (d : Nat) (C : Ctx) (X : Cx) : Prop extends Gd Z d C X where
  fn : ∀ x, X.fn x = true
  own : PassesOwn (model X.prog X.w) X.A X.env X.xe
  stk : X.stack = X.env :: X.outer
  frm : X.env.frame = some X.env.locals
theorem Gs.stores (G : Gs Z d C X) : Stores X C := fun x i h => by
  obtain ⟨h1, h2⟩ := slotW_of h
  refine ⟨by rw [G.N]; exact findIdx_get h2, ?_, .inl (G.fn x)⟩
  rw [← G.sc] at h1
  exact h1
/-- the reading of a store -/
def gTg (Z : Zx) (cs : List Nat) (X : Cx) (cF : Nat → List D → S → R D) (cV : D → List D → S → R D) (t : Tg) : TG := fun v σ H Q => ∃ g en s w en' s', RelS Z g H s ∧ RelE cs X g H σ en s ∧ Wf X σ en ∧ Rep g.φ H w v ∧ putTg cF cV t en s w = .ok en' s' ∧
  ∀ g' H' σ', After g.lv g H s g' H' s' → RelS Z g' H' s' → RelE cs X g' H' σ' en' s' → Wf X σ' en' → en'.ce = en.ce → Q σ' H'
def gTgs (Z : Zx) (cs : List Nat) (X : Cx) (cF : Nat → List D → S → R D) (cV : D → List D → S → R D) (t : List Tg) : TGs := fun vs σ H Q => ∃ g en s ws en' s', RelS Z g H s ∧ RelE cs X g H σ en s ∧ Wf X σ en ∧ Reps g.φ H ws vs ∧ putEach cF cV t en s ws = .ok en' s' ∧
  ∀ g' H' σ', After g.lv g H s g' H' s' → RelS Z g' H' s' → RelE cs X g' H' σ' en' s' → Wf X σ' en' → en'.ce = en.ce → Q σ' H'
theorem lv_of (e : RelE cs X g H σ en s) (l : List Nat) : ∀ c ∈ cellsL en.ce l, c ∈ g.lv := fun c hc => by
  obtain ⟨i, _, h⟩ := of_cellsL hc
  obtain ⟨_, _, _, _, _, _, h5, _⟩ := e.cell i c h
  exact h5
theorem Wf.off {l : List Nat} (w : Wf X σ en) (hc : en'.ce = en.ce) (o : Off l σ σ') : Wf X σ' en' := ⟨o.1.trans w.1, fun i j c h1 h2 => w.2 i j c (by rw [← hc]; exact h1) (by rw [← hc]; exact h2)⟩
theorem Wf.of (w : Wf X σ en) (hc : en'.ce = en.ce) (hl : σ'.length = σ.length) : Wf X σ' en' := ⟨hl.trans w.1, fun i j c h1 h2 => w.2 i j c (by rw [← hc]; exact h1) (by rw [← hc]; exact h2)⟩
theorem fin_eq {r : R α} {a : α} {K : α → S → Gh → Hp → Prop} (h : r = .ok a s') (k : ∀ g' H', After [] g H s g' H' s' → RelS Z g' H' s' → K a s' g' H') : Fin Z W σ g H s r K := by
  rw [h]; exact k
theorem pg_tg (ih : IHE Z d cF cV n) (G : Gs Z d C X) (tk : Takes X W) {e : Expr} {t : Tg} (h : trTg n C e = some t) : PG X e (gTg Z C.cs X cF cV t) := by
  have nd : X.N.Nodup := by rw [G.N]; exact G.nd
  have nm : ∀ {e : Expr} {t : Tg}, (trNt C 5 e).map Tg.nm = some t → PG X e (gTg Z C.cs X cF cV t) := fun {e t} h => by
    cases h1 : trNt C 5 e with
    | none => rw [h1] at h; cases h
    | some nt =>
      rw [h1] at h
      cases h
      refine pg_imp (pg_nt (Z := Z) (cs := C.cs) nd G.calm G.stores 5 e nt h1) fun v σ H Q ⟨g, en, s, w, en', s', r, e0, wf, hv, hp, q⟩ => ?_
      refine ⟨g, en, s, w, en', s', wf.1, wf.2, r, e0, hv, hp, fun σ' r1 i1 a1 c1 o1 => ?_⟩
      exact q g H σ' (a1.up (lv_of e0 _)) r1 i1 (wf.off c1 o1) c1
  unfold trTg at h
  split at h
  · rename_i a i p
    split at h
    · cases h
    · cases h1 : trE n C a with
      | none => simp only [h1] at h; cases h
      | some ca =>
        cases h2 : trE n C i with
        | none => simp only [h1, h2] at h; cases h
        | some ci =>
          simp only [h1, h2] at h
          cases h
          refine pg_imp (L2.pg_sub (ih.pe C X W G.toGd tk a ca h1).1 (ih.pe C X W G.toGd tk i ci h2).1 L2.set_list (by
            intro v
            cases n with
            | zero => unfold trE at h2; cases h2
            | succ m => cases i <;> first | rfl | (unfold trE at h2; cases h2))) fun v σ H Q ⟨g, en, s, w, en', s', r, e0, wf, hv, hp, q⟩ => ?_
          unfold putTg at hp
          obtain ⟨x, s1, p1, hp⟩ := bind_ok_of hp
          obtain ⟨y, s2, p2, hp⟩ := bind_ok_of hp
          obtain ⟨_, s3, p3, hp⟩ := bind_ok_of hp
          cases hp
          refine ⟨g, en, s, r, e0, fin_eq p1 fun g1 H1 a1 r1 o ho => ?_⟩
          have e1 := e0.after r.m a1
          refine ⟨g1, en, s1, r1, e1, fin_eq p2 fun g2 H2 a2 r2 i hi => ?_⟩
          have e2 := e1.after r1.m a2
          refine set_is r2 (a2.rep ho) hi (a2.rep (a1.rep hv)) p3 fun g3 H3 a3 r3 => ?_
          exact q g3 H3 σ ((a1.trans (a2.trans a3)).up0) r3 (e2.after r2.m a3) wf rfl
  · exact nm h
theorem tg_noStar {e : Expr} {t : Tg} (h : trTg n C e = some t) : noStar e = true := by
  cases e <;> first | rfl | (exfalso; unfold trTg at h; simp only [trNt] at h; cases h)
theorem putEach_len : ∀ {l : List Tg} {ws : List D} {en en' : Env} {s s' : S}, putEach cF cV l en s ws = .ok en' s' → ws.length = l.length
  | [], [], _, _, _, _, _ => rfl
  | [], _ :: _, _, _, _, _, h => by unfold putEach at h; cases h
  | _ :: _, [], _, _, _, _, h => by unfold putEach at h; cases h
  | t :: l, w :: ws, en, en', s, s', h => by
    unfold putEach at h
    obtain ⟨e1, s1, _, h2⟩ := bind_ok_of h
    simp [putEach_len h2]
theorem pg_tgs (ih : IHE Z d cF cV n) (G : Gs Z d C X) (tk : Takes X W) : ∀ {es : List Expr} {ts : List Tg}, mapO (trTg n C) es = some ts → PGs X es (gTgs Z C.cs X cF cV ts)
  | [], ts, h => by
    cases h
    refine pgs_imp L2.pgs_nil fun vs σ H Q ⟨g, en, s, ws, en', s', r, e, wf, hv, h, q⟩ => ?_
    cases ws with
    | cons _ _ => unfold putEach at h; cases h
    | nil =>
      unfold putEach at h
      cases h
      exact ⟨hv.nil_of, q g H σ (After.refl _ _ _ _) r e wf rfl⟩
  | e :: es, ts, h => by
    obtain ⟨t, ts', h1, h2, rfl⟩ := mapO_cons h
    refine pgs_imp (L2.pgs_cons (pg_tg ih G tk h1) (pg_tgs ih G tk h2) (by rw [asg_cons (tg_noStar h1)] <;> rfl)) fun vs σ H Q ⟨g, en, s, ws, en', s', r, e0, wf, hv, h, q⟩ => ?_
    cases ws with
    | nil => unfold putEach at h; cases h
    | cons w ws =>
      unfold putEach at h
      obtain ⟨e1, s1, q1, q2⟩ := bind_ok_of h
      obtain ⟨v, us, rfl, hv1, hv2⟩ := hv.cons_of
      refine ⟨v, us, rfl, g, en, s, w, e1, s1, r, e0, wf, hv1, q1, fun g1 H1 σ1 a1 r1 i1 w1 c1 => ?_⟩
      refine ⟨g1, e1, s1, ws, en', s', r1, i1, w1, a1.reps hv2, q2, fun g2 H2 σ2 a2 r2 i2 w2 c2 => ?_⟩
      exact q g2 H2 σ2 (a1.trans (a1.lv ▸ a2)) r2 i2 w2 (c2.trans c1)
end
end Ev
/-! EvJ2: statements. -/
namespace Ev
open PySem PySem.Spec PyProof.Rows
open L2 (V HO Hp Cx Inv PE PT PA PS PSs PG PGs PI PW PO PK PTs RelV Vals upd upd_same upd_ne SqL SqT TE TT TA TS TG TGs TI TO WX XK VK Room Takes EP FpOk Ends)
section
variable {Z : Zx} {cs : List Nat} {W : WX} {X : Cx} {σ σ' : L2.St} {g g1 g2 : Gh} {H H1 H2 : Hp} {s s1 s2 s' : S} {en en' : Env} {α β : Type} {K : PySem.W.Frag} {d n : Nat} {C : Ctx} {cF : Nat → List D → S → R D} {cV : D → List D → S → R D} {D' : Ends} {cls : List (Option Nat × List Str)}
/-- what holds of the statements with the fuel n -/
structure IHS (Z : Zx) (d : Nat) (cF : Nat → List D → S → R D) (cV : D → List D → S → R D) (n : Nat) : Prop where
  ps : ∀ C X W, Gs Z d C X → Takes X W → ∀ st c, trS n C st = some c → PS X st (tSv Z C.cs X W (evS cF cV Z.pg.cls c))
  pss : ∀ C X W, Gs Z d C X → Takes X W → ∀ b c, trSs n C b = some c → PSs X b (tSv Z C.cs X W (evSs cF cV Z.pg.cls c))
  as : ∀ C X W, Gs Z d C X → Takes X W → ∀ t e c pos, trAsg n C t e = some c → PS X (.Assign [t] e pos) (tSv Z C.cs X W (evS cF cV Z.pg.cls c))
theorem tSv_no {st : Stmt} : PS X st (tSv Z cs X W (evS cF cV cls .no)) := ⟨fun pins s0 σ H D' I ⟨g, en, s, r, e, w, h⟩ => h.elim⟩
theorem ss_pss (ih : IHS Z d cF cV n) (G : Gs Z d C X) (tk : Takes X W) {b : List Stmt} {c : Ss} (h : trSs (n + 1) C b = some c) : PSs X b (tSv Z C.cs X W (evSs cF cV Z.pg.cls c)) := by
  unfold trSs at h
  cases b with
  | nil =>
    cases h
    exact pss_imp L2.pss_nil fun D' σ H ⟨g, en, s, r, e, w, q⟩ => fl_nx r e w rfl q
  | cons st b =>
    cases h1 : trSs n C b with
    | none => simp only [h1] at h; cases h
    | some cb =>
      simp only [h1] at h
      cases h
      have ps : PS X st (tSv Z C.cs X W (evS cF cV Z.pg.cls ((trS n C st).getD .no))) := by
        cases h2 : trS n C st with
        | none => exact tSv_no
        | some cs => exact ih.ps C X W G tk st cs h2
      refine pss_imp (L2.pss_cons ps (ih.pss C X W G tk b cb h1)) fun D' σ H ⟨g, en, s, r, e, w, q⟩ => ?_
      refine ⟨g, en, s, r, e, w, ?_⟩
      have q : FinS Z C.cs X W D' g H s en.ce ((evS cF cV Z.pg.cls ((trS n C st).getD .no) en s).bind fun f s => match f with
        | .nx en => evSs cF cV Z.pg.cls cb en s
        | f => .ok f s) := q
      cases hr : evS cF cV Z.pg.cls ((trS n C st).getD .no) en s with
      | bad => rw [hr] at q; exact q
      | ex c ws s' => rw [hr] at q; exact q
      | ok f s1 =>
        rw [hr] at q
        cases f with
        | nx e1 =>
          have q : FinS Z C.cs X W D' g H s en.ce (evSs cF cV Z.pg.cls cb e1 s1) := q
          intro g' H' σ' a r' i w' c'
          refine ⟨g', e1, s1, r', i, w', ?_⟩
          rw [c']
          exact FinS.rebase a q
        | bk e1 => exact q
        | ct e1 => exact q
        | rt w => exact q
/-- a truth test in a statement -/
theorem st_test {f : Env → S → R D} {k : Bool → S → R Fl} {ce : List (Option Nat)} {Q : Bool → Hp → Prop} (r : RelS Z g H s) (e : RelE cs X g H σ en s) (h : FinS Z cs X W D' g H s ce ((f en s).bind fun x s => (truthR s x).bind k))
    (hq : ∀ b H1 s1 g1, RelS Z g1 H1 s1 → RelE cs X g1 H1 σ en s1 → After [] g H s g1 H1 s1 → FinS Z cs X W D' g1 H1 s1 ce (k b s1) → Q b H1) : tTv Z cs X W (fun en s => (f en s).bind fun x s => truthR s x) σ H Q :=
  sTv_seq (k := k) r e (by rw [R.bind_assoc]; exact h) hq
theorem sno_of {r : R α} {f : α → S → R Fl} {ce : List (Option Nat)} (h : FinS Z cs X W D' g H s ce (r.noEx.bind f)) : ∃ a s1, r = .ok a s1 ∧ FinS Z cs X W D' g H s ce (f a s1) := by
  cases r with
  | ok a s1 => exact ⟨a, s1, rfl, h⟩
  | ex _ _ _ => exact h.elim
  | bad => exact h.elim
/-- the body of a loop -/
theorem body_fin {N : L2.St → Hp → Prop} {k : Env → S → R Fl} {ce : List (Option Nat)} {r : R Fl}
    (hN : ∀ e3 s3, FinS Z cs X W D' g H s ce (k e3 s3) → ∀ g4 H4 σ4, After g.lv g H s g4 H4 s3 → RelS Z g4 H4 s3 → RelE cs X g4 H4 σ4 e3 s3 → Wf X σ4 e3 → e3.ce = ce → N σ4 H4)
    (q : FinS Z cs X W D' g H s ce (r.bind fun fl s => match fl with
      | .nx e => k e s
      | .ct e => k e s
      | .bk e => .ok (.nx e) s
      | .rt w => .ok (.rt w) s)) : FinS Z cs X W { D' with nx := N, ct := N, bk := D'.nx } g H s ce r := by
  cases r with
  | bad => exact q
  | ex c ws s' => exact q
  | ok f s3 =>
    cases f with
    | nx e3 => exact fun g4 H4 σ4 a r i w c => hN e3 s3 q g4 H4 σ4 a r i w c
    | ct e3 => exact fun g4 H4 σ4 a r i w c => hN e3 s3 q g4 H4 σ4 a r i w c
    | bk e3 => exact q
    | rt w => exact q
theorem nosw_of {e : Expr} {c : E} (h : trE n C e = some c) (hl : ∀ a b c d, e ≠ .ListComp a b c d) (t : Option Expr) (l : Nat) (env : PySem.Env) : swapsWith e t l env = pure false := by
  cases n with
  | zero => unfold trE at h; cases h
  | succ n => cases e <;> first | rfl | (exact absurd rfl (hl _ _ _ _)) | (unfold trE at h; cases h)
/-- own errors raised, errors met (a hypothesis on calls one level deeper) -/
structure ExOk (Z : Zx) (d : Nat) (cF : Nat → List D → S → R D) (cV : D → List D → S → R D) : Prop where
  rais : ∀ n, IHE Z d cF cV n → ∀ C X W, Gs Z d C X → Takes X W → ∀ (x : Str) (px : Pos) (e : Expr) (cp p : Pos) (i : Nat) (ces : Es), isGl C x = true → C.T.cls.findIdx? (fun p => p.1 == x && Nat.beq p.2.length 1) = some i → trL n C [e] = some ces → PS X (.Raise (some (.Call (.Name x px) [e] [] cp)) none p) (tSv Z C.cs X W (evS cF cV Z.pg.cls (.rais i ces)))
  met : ∀ n, IHE Z d cF cV n → ∀ C X W, Gs Z d C X → Takes X W → ∀ (e : Expr) (p : Pos) (h : ExceptHandler) (hs : List ExceptHandler) (q : Pos) (ce : E) (chs : List (Nat × Str × Nat)), trE n C e = some ce → mapO (trH C) (h :: hs) = some chs → PS X (.Try [.Return (some e) p] (h :: hs) [] [] q) (tSv Z C.cs X W (evS cF cV Z.pg.cls (.met ce chs)))
theorem ss_ps (xo : ExOk Z d cF cV) (ih : IHE Z d cF cV n) (is : IHS Z d cF cV n) (G : Gs Z d C X) (tk : Takes X W) {st : Stmt} {c : Ev.St} (h : trS (n + 1) C st = some c) : PS X st (tSv Z C.cs X W (evS cF cV Z.pg.cls c)) := by
  have nd : X.N.Nodup := by rw [G.N]; exact G.nd
  unfold trS at h
  split at h
  · exact is.as C X W G tk _ _ c _ h
  · rename_i x p o e pos
    cases h1 : C.slotW x with
    | none => simp only [h1] at h; cases h
    | some i =>
      cases h2 : trBo o with
      | none => simp only [h1, h2] at h; cases h
      | some bo =>
        cases h3 : trE n C e with
        | none => simp only [h1, h2, h3] at h; cases h
        | some ce =>
          simp only [h1, h2, h3] at h
          cases h
          obtain ⟨i1, i2, i3⟩ := G.stores x i h1
          refine ps_imp (L2.ps_aug nd i1 i2 (ih.pe C X W G.toGd tk e ce h3).1 (ti := rAug bo) (fun pins s0 σ H x y v u Q I rx ry q => aug_op (X := X) h2 pins s0 σ H x y v u Q I rx ry q) i3) fun D' σ H ⟨g, en, s, r, e0, w, q⟩ => ?_
          have q : FinS Z C.cs X W D' g H s en.ce ((ofO s (en.get i)).bind fun x s => (evE cF cV ce en s).bind fun y s => (augW bo s x y).bind fun z s => (en.put i z s).noEx.bind fun en s => .ok (.nx en) s) := q
          cases hx : en.get i with
          | none => rw [hx] at q; exact q.elim
          | some x0 =>
            rw [hx] at q
            have q : FinS Z C.cs X W D' g H s en.ce ((evE cF cV ce en s).bind fun y s => (augW bo s x0 y).bind fun z s => (en.put i z s).noEx.bind fun en s => .ok (.nx en) s) := q
            unfold Env.get at hx
            obtain ⟨v, hv1, hv2⟩ := e0.slot i x0 (join_some hx)
            refine ⟨v, hv1, sEv_seq r e0 q fun u H1 y s1 g1 r1 e1 a1 hy q1 => ?_⟩
            refine aug_is X.K bo Z W σ g1 H1 s1 x0 y v u _ r1 (a1.rep hv2) hy ((FinS.bind q1).mono fun z s2 g2 H2 ⟨a2, r2, q2⟩ zv hz => ?_)
            obtain ⟨e3, s3, hp, q3⟩ := sno_of q2
            have e2 := e1.after r1.m a2
            obtain ⟨r4, e4, a4, c4⟩ := RelE.put r2 e2 hp (List.getElem?_eq_some_iff.mp i1).1 hz w.1 w.2
            exact q3 g2 H2 _ (a4.up (lv_of e2 _)) r4 e4 (w.of c4 List.length_set) c4
  · rename_i e pos
    split at h
    · rename_i x j p
      cases h
      exact ps_imp L2.ps_doc fun D' σ H ⟨g, en, s, r, e, w, q⟩ => fl_nx r e w rfl q
    · cases h
    · cases h1 : trE n C e with
      | none => rw [h1] at h; cases h
      | some ce =>
        rw [h1] at h
        cases h
        rename_i hnd hnl
        refine ps_imp (L2.ps_expr (ih.pe C X W G.toGd tk e ce h1).1 (nosw_of h1 (fun a b c d z => hnl a b c d z) none _ _)) fun D' σ H ⟨g, en, s, r, e0, w, q⟩ => ?_
        exact sEv_seq r e0 q fun v H1 x s1 g1 r1 e1 a1 hx q1 => fl_nx r1 e1 w rfl q1
  · rename_i c0 a b pos
    cases h1 : trE n C c0 with
    | none => simp only [h1] at h; cases h
    | some cc =>
      cases h2 : trSs n C a with
      | none => simp only [h1, h2] at h; cases h
      | some ca =>
        cases h3 : trSs n C b with
        | none => simp only [h1, h2, h3] at h; cases h
        | some cb =>
          simp only [h1, h2, h3] at h
          cases h
          refine ps_imp (L2.ps_if (ih.pe C X W G.toGd tk c0 cc h1).2 (is.pss C X W G tk a ca h2) (is.pss C X W G tk b cb h3)) fun D' σ H ⟨g, en, s, r, e, w, q⟩ => ?_
          refine st_test (k := fun k s => bif k then evSs cF cV Z.pg.cls ca en s else evSs cF cV Z.pg.cls cb en s) r e q fun b H1 s1 g1 r1 e1 a1 q1 => ?_
          cases b with
          | true => exact ⟨g1, en, s1, r1, e1, w, q1⟩
          | false => exact ⟨g1, en, s1, r1, e1, w, q1⟩
  · rename_i t it b pos
    cases h1 : trNt C 5 t with
    | none => simp only [h1] at h; cases h
    | some ct =>
      cases h2 : trI n C (isTup t) it with
      | none => simp only [h1, h2] at h; cases h
      | some cit =>
        cases h3 : trSs n C b with
        | none => simp only [h1, h2, h3] at h; cases h
        | some cb =>
          simp only [h1, h2, h3] at h
          cases h
          refine ps_imp (L2.ps_for G.own G.calm (ih.pi C X W G.toGd tk t it cit h2) (pg_nt (Z := Z) (cs := C.cs) nd G.calm G.stores 5 t ct h1) (is.pss C X W G tk b cb h3) (hs := fits_of h2 X.env)) fun D' σ H ⟨g, en, s, r, e, w, q⟩ => ?_
          refine ⟨g, en, s, r, e, (FinS.bind q).mono fun ri s1 g1 H1 ⟨a1, r1, q1⟩ J hw => ?_⟩
          have e1 := e.after r.m a1
          refine ⟨fun i m σ' H' => ∃ g' en' s', After g1.lv g1 H1 s1 g' H' s' ∧ RelS Z g' H' s' ∧ RelE C.cs X g' H' σ' en' s' ∧ Wf X σ' en' ∧ en'.ce = en.ce ∧ FinS Z C.cs X W D' g' H' s' en.ce (forLoop ri.next (fun e s y => putNt e s ct y) (fun e s => evSs cF cV Z.pg.cls cb e s) m i en' s'),
            ⟨most, g1, en, s1, After.refl _ _ _ _, r1, e1, w, rfl, q1⟩, ?_⟩
          rintro i m σ' H' ⟨g', en', s', a', r', e', w', c', q'⟩
          cases m with
          | zero => exact q'.elim
          | succ m =>
            have wk := hw g' H' s' i a'.φ a'.fix r'
            unfold forLoop at q'
            cases hn : ri.next s' i with
            | none => simp only [hn] at q'; exact q'.elim
            | some o =>
              cases o with
              | none =>
                simp only [hn] at q'
                exact .inl ⟨wk.2 hn, fl_nx r' e' w' c' q'⟩
              | some y =>
                simp only [hn] at q'
                obtain ⟨go, yl⟩ := wk.1 y hn
                obtain ⟨e2, s2, hp, q2⟩ := sno_of q'
                refine .inr ⟨go, fun σ2 H2 => ∃ m', m' < m + 1 ∧ ∃ g' en' s', After g1.lv g1 H1 s1 g' H2 s' ∧ RelS Z g' H2 s' ∧ RelE C.cs X g' H2 σ2 en' s' ∧ Wf X σ2 en' ∧ en'.ce = en.ce ∧ FinS Z C.cs X W D' g' H2 s' en.ce (forLoop ri.next (fun e s y => putNt e s ct y) (fun e s => evSs cF cV Z.pg.cls cb e s) m' (i + 1) en' s'), fun _ _ z => z, fun x H2 hy => ?_⟩
                obtain ⟨he, hr⟩ := yl x H2 hy
                have a2 : After [] g' H' s' g' H2 s' := After.aside he
                have e3 := e'.after r'.m a2
                refine ⟨g', en', s', y, e2, s2, w'.1, w'.2, r'.aside he, e3, hr, hp, fun σ3 r3 i3 a3 c3 o3 => ?_⟩
                have a4 : After g'.lv g' H' s' g' H2 s2 := a2.up0.trans (a3.up (lv_of e3 _))
                refine ⟨g', e2, s2, r3, i3, w'.off c3 o3, ?_⟩
                have q3 := FinS.rebase a4 q2
                rw [c3, c']
                refine body_fin (k := fun e s => forLoop ri.next (fun e s y => putNt e s ct y) (fun e s => evSs cF cV Z.pg.cls cb e s) m (i + 1) e s) (fun e5 s5 q5 g6 H6 σ6 a6 r6 i6 w6 c6 => ?_) q3
                refine ⟨m, Nat.lt_succ_self _, g6, e5, s5, a'.trans (a'.lv ▸ (a4.trans (by have hl := a4.lv; exact a6))), r6, i6, w6, c6, FinS.rebase a6 q5⟩
  · rename_i c0 b pos
    cases h1 : trE n C c0 with
    | none => simp only [h1] at h; cases h
    | some cc =>
      cases h2 : trSs n C b with
      | none => simp only [h1, h2] at h; cases h
      | some cb =>
        simp only [h1, h2] at h
        cases h
        refine ps_imp (L2.ps_while G.own (ih.pe C X W G.toGd tk c0 cc h1).2 (is.pss C X W G tk b cb h2)) fun D' σ H ⟨g, en, s, r, e, w, q⟩ => ?_
        refine ⟨fun m σ' H' => ∃ g' en' s', RelS Z g' H' s' ∧ RelE C.cs X g' H' σ' en' s' ∧ Wf X σ' en' ∧ en'.ce = en.ce ∧ FinS Z C.cs X W D' g' H' s' en.ce (whlLoop (fun e s => (evE cF cV cc e s).bind fun x s => truthR s x) (fun e s => evSs cF cV Z.pg.cls cb e s) m en' s'),
          ⟨most, g, en, s, r, e, w, rfl, q⟩, ?_⟩
        rintro m σ' H' ⟨g', en', s', r', e', w', c', q'⟩
        cases m with
        | zero => exact q'.elim
        | succ m =>
          unfold whlLoop at q'
          refine sTv_seq (f := fun e s => (evE cF cV cc e s).bind fun x s => truthR s x) r' e' q' fun k H1 s1 g1 r1 e1 a1 q1 => ?_
          cases k with
          | false => 
            rw [if_neg (by decide)]
            exact fl_nx r1 e1 w' c' q1
          | true =>
            rw [if_pos rfl]
            simp only [cond_true] at q1
            refine ⟨fun σ2 H2 => ∃ m', m' < m + 1 ∧ ∃ g' en' s', RelS Z g' H2 s' ∧ RelE C.cs X g' H2 σ2 en' s' ∧ Wf X σ2 en' ∧ en'.ce = en.ce ∧ FinS Z C.cs X W D' g' H2 s' en.ce (whlLoop (fun e s => (evE cF cV cc e s).bind fun x s => truthR s x) (fun e s => evSs cF cV Z.pg.cls cb e s) m' en' s'), fun _ _ z => z, ?_⟩
            refine ⟨g1, en', s1, r1, e1, w', ?_⟩
            rw [c']
            exact body_fin (k := fun e s => whlLoop (fun e s => (evE cF cV cc e s).bind fun x s => truthR s x) (fun e s => evSs cF cV Z.pg.cls cb e s) m e s) (fun e5 s5 q5 g6 H6 σ6 a6 r6 i6 w6 c6 => ⟨m, Nat.lt_succ_self _, g6, e5, s5, r6, i6, w6, c6, FinS.rebase a6 q5⟩) q1
  · rename_i e pos
    cases h1 : trE n C e with
    | none => rw [h1] at h; cases h
    | some ce =>
      rw [h1] at h
      cases h
      refine ps_imp (L2.ps_ret (ih.pe C X W G.toGd tk e ce h1).1) fun D' σ H ⟨g, en, s, r, e, w, q⟩ => ?_
      exact sEv_seq r e q fun v H1 x s1 g1 r1 e1 a1 hx q1 => fl_rt r1 q1 hx
  · cases h
    exact ps_imp L2.ps_retN fun D' σ H ⟨g, en, s, r, e, w, q⟩ => fl_rt r q Rep.non
  · rename_i x px es cp p
    cases hg : isGl C x with
    | false => rw [hg] at h; cases h
    | true =>
      rw [hg] at h
      rw [cond_true] at h
      cases h1 : C.T.cls.findIdx? (fun p => p.1 == x && Nat.beq p.2.length 1) with
      | none => simp only [h1] at h; cases h
      | some i =>
        cases h2 : trL n C [es] with
        | none => simp only [h1, h2] at h; cases h
        | some ces =>
          simp only [h1, h2] at h
          cases h
          exact xo.rais n ih C X W G tk x px es cp p i ces hg h1 h2
  · rename_i e p hh hs q
    cases h1 : trE n C e with
    | none => simp only [h1] at h; cases h
    | some ce =>
      cases h2 : mapO (trH C) (hh :: hs) with
      | none => simp only [h1, h2] at h; cases h
      | some chs =>
        simp only [h1, h2] at h
        cases h
        exact xo.met n ih C X W G tk e p hh hs q ce chs h1 h2
  · cases h
    exact ps_imp L2.ps_pass fun D' σ H ⟨g, en, s, r, e, w, q⟩ => fl_nx r e w rfl q
  · cases h
    exact ps_imp L2.ps_break fun D' σ H ⟨g, en, s, r, e, w, q⟩ => q g H σ (After.refl _ _ _ _) r e w rfl
  · cases h
    exact ps_imp L2.ps_continue fun D' σ H ⟨g, en, s, r, e, w, q⟩ => q g H σ (After.refl _ _ _ _) r e w rfl
  · cases h
end
end Ev
/-! EvJ3: assignments. -/
namespace Ev
open PySem PySem.Spec PyProof.Rows
open L2 (V HO Hp Cx Inv PE PT PA PS PSs PG PGs PI PW PO PK PTs RelV Vals upd upd_same upd_ne SqL SqT TE TT TA TS TG TGs TI TO WX XK VK Room Takes EP FpOk Ends)
section
variable {Z : Zx} {cs : List Nat} {W : WX} {X : Cx} {σ σ' : L2.St} {g g1 g2 : Gh} {H H1 H2 : Hp} {s s1 s2 s' : S} {en en' : Env} {α β : Type} {K : PySem.W.Frag} {d n : Nat} {C : Ctx} {cF : Nat → List D → S → R D} {cV : D → List D → S → R D} {D' : Ends} {cls : List (Option Nat × List Str)}
theorem swap_is {env : PySem.Env} {ts vs : List Expr} {o : Option (List Str)} {k k2 : Nat} {p p2 : Pos} (hk : env.scope.kind = .function) (hs : env.scope = C.sc) (h : swapC C ts vs = some o) : swappedStores [.Tuple ts k p] (.Tuple vs k2 p2) env = pure o := by
  have hb : (env.blockKind != .function) = false := by
    unfold Env.blockKind
    rw [hk] <;> rfl
  have hkd : ∀ x, env.kindOf x = C.sc.names.lookup x := fun x => by
    show env.scope.names.lookup x = _
    rw [hs]
  have go : ∀ {c : Prop} {_ : Decidable c} {a b : Sem (Option (List Str))}, c → a = pure o → (if c then a else b) = pure o := fun {c _ a b} hc ha => by rw [if_pos hc]; exact ha
  have go2 : ∀ {c : Prop} {_ : Decidable c} {a b : Sem (Option (List Str))}, ¬ c → b = pure o → (if c then a else b) = pure o := fun {c _ a b} hc ha => by rw [if_neg hc]; exact ha
  unfold swapC at h
  unfold swappedStores
  simp only [hb, Bool.or_false, hkd]
  by_cases c1 : (!(ts.length == 2 || ts.length == 3) || vs.length != ts.length) = true
  · rw [if_pos c1] at h ⊢
    cases h; rfl
  · rw [if_neg c1] at h ⊢
    split at h
    · rename_i c2
      cases h
      exact go c2 rfl
    · rename_i c2
      refine go2 c2 ?_
      simp only at h
      split at h
      · rename_i c3
        cases h
        exact go c3 rfl
      · rename_i c3
        refine go2 c3 ?_
        split at h
        · rename_i c4
          cases h
          exact go c4 rfl
        · rename_i c4
          refine go2 c4 ?_
          split at h
          · cases h
          · rename_i c5
            cases h
            exact go2 c5 rfl
theorem fm_len {f : α → Option β} : ∀ l : List α, (l.filterMap f).length = l.length → mapO f l = some (l.filterMap f)
  | [], _ => rfl
  | a :: l, h => by
    have hle := List.length_filterMap_le f l
    rw [List.filterMap_cons] at h ⊢
    unfold mapO
    cases e : f a with
    | none =>
      simp only [e, List.length_cons] at h
      omega
    | some b =>
      simp only [e, List.length_cons] at h
      have ih := fm_len (f := f) l (by omega)
      simp only [ih]
theorem mapO_mono {f g : α → Option β} (hfg : ∀ a b, f a = some b → g a = some b) : ∀ {l : List α} {bs : List β}, mapO f l = some bs → mapO g l = some bs
  | [], _, h => h
  | a :: l, bs, h => by
    obtain ⟨b, cs, h1, h2, rfl⟩ := mapO_cons h
    unfold mapO
    simp only [hfg a b h1, mapO_mono hfg h2]
/-- a plain name -/
def nameE : Expr → Option Str
  | .Name x _ => some x
  | _ => none
theorem swap_names {ts vs : List Expr} {names : List Str} (h : swapC C ts vs = some (some names)) : (ts.length = 2 ∨ ts.length = 3) ∧ vs.length = ts.length ∧ mapO nameE ts = some names := by
  unfold swapC at h
  split at h
  · cases h
  · rename_i c1
    simp only [Bool.or_eq_true, Bool.not_eq_true', Bool.or_eq_false_iff, bne_iff_ne, ne_eq, not_or, Decidable.not_not, beq_eq_false_iff_ne] at c1
    split at h
    · cases h
    · simp only at h
      split at h
      · cases h
      · rename_i c3
        split at h
        · cases h
        · split at h
          · cases h
          · cases h
            simp only [Bool.or_eq_true, bne_iff_ne, ne_eq, not_or, Decidable.not_not] at c3
            have := fm_len _ c3.1
            refine ⟨by omega, c1.2, ?_⟩
            refine mapO_mono (fun a b hb => ?_) this
            cases a <;> first
              | (simp only at hb
                 split at hb
                 · cases hb; rfl
                 · cases hb)
              | cases hb
theorem nameE_is {t : Expr} {x : Str} (h : nameE t = some x) : ∃ p, t = .Name x p := by
  cases t <;> first | (cases h; exact ⟨_, rfl⟩) | cases h
theorem putsRev2 {i j : Nat} {ws : List D} {e3 : Env} {s3 : S} (h : putsRev [i, j] ws en s = .ok e3 s3) : ∃ w1 w2 e1 s1, ws = [w1, w2] ∧ en.put j w2 s = .ok e1 s1 ∧ e1.put i w1 s1 = .ok e3 s3 := by
  cases ws with
  | nil => unfold putsRev at h; cases h
  | cons w1 ws =>
    unfold putsRev at h
    obtain ⟨e1, s1, h1, h2⟩ := bind_ok_of h
    cases ws with
    | nil => unfold putsRev at h1; cases h1
    | cons w2 ws =>
      unfold putsRev at h1
      obtain ⟨e2, s2, h3, h4⟩ := bind_ok_of h1
      cases ws with
      | cons _ _ => unfold putsRev at h3; cases h3
      | nil =>
        unfold putsRev at h3
        cases h3
        exact ⟨w1, w2, e1, s1, rfl, h4, h2⟩
theorem putsRev3 {i j k : Nat} {ws : List D} {e3 : Env} {s3 : S} (h : putsRev [i, j, k] ws en s = .ok e3 s3) : ∃ w1 w2 w3 e1 s1 e2 s2, ws = [w1, w2, w3] ∧ en.put k w3 s = .ok e1 s1 ∧ e1.put j w2 s1 = .ok e2 s2 ∧ e2.put i w1 s2 = .ok e3 s3 := by
  cases ws with
  | nil => unfold putsRev at h; cases h
  | cons w1 ws =>
    unfold putsRev at h
    obtain ⟨e1, s1, h1, h2⟩ := bind_ok_of h
    obtain ⟨w2, w3, e2, s2, rfl, h3, h4⟩ := putsRev2 h1
    exact ⟨w1, w2, w3, e2, s2, e1, s1, rfl, h3, h4, h2⟩
/-- a plain name that is stored to -/
theorem par_is {ts : List Expr} {is : List Nat} (h : parOf C ts = some is) : ∀ {k : Nat} {t : Expr} {x : Str} {p : Pos}, ts[k]? = some t → t = .Name x p → ∃ i, is[k]? = some i ∧ C.slotW x = some i ∧ C.sc.names.lookup x = some .local := by
  intro k t x p hk ht
  unfold parOf at h
  obtain ⟨i, h1, h2⟩ := mapO_get h hk
  subst ht
  simp only at h2
  cases hb : (C.sc.names.lookup x == some .local) with
  | false => rw [hb] at h2; cases h2
  | true =>
    rw [hb] at h2
    exact ⟨i, h1, h2, by simpa using hb⟩
theorem st_as (ih : IHE Z d cF cV n) (G : Gs Z d C X) (tk : Takes X W) {t e : Expr} {c : Ev.St} {pos : Pos} (hcomp : ∀ (elt : Expr) (gs : List Comprehension) (scope : Scope) (p : Pos), e = .ListComp elt gs scope p → ∀ ct ce, trTg n C t = some ct → trE n C e = some ce → PS X (.Assign [t] e pos) (tSv Z C.cs X W (evS cF cV Z.pg.cls (.asg ct ce))))
    (h : trAsg (n + 1) C t e = some c) : PS X (.Assign [t] e pos) (tSv Z C.cs X W (evS cF cV Z.pg.cls c)) := by
  have nd : X.N.Nodup := by rw [G.N]; exact G.nd
  unfold trAsg at h
  dsimp only at h
  split at h
  · rename_i ts k p vs k2 p2
    cases hsw : swapC C ts vs with
    | none => simp only [hsw] at h; cases h
    | some o =>
      cases h1 : trL n C vs with
      | none => cases o <;> (simp only [hsw, h1] at h; cases h)
      | some es =>
        have hst := fun (hk : X.env.scope.kind = .function) => swap_is (k := k) (k2 := k2) (p := p) (p2 := p2) hk G.sc hsw
        cases o with
        | some names =>
          simp only [hsw, h1] at h
          cases h2 : parOf C ts with
          | none => simp only [h2] at h; cases h
          | some is =>
            simp only [h2] at h
            cases hb : (decide is.Nodup && Nat.beq ts.length vs.length) with
            | false => rw [hb] at h; cases h
            | true =>
              rw [hb] at h
              cases h
              simp only [Bool.and_eq_true, decide_eq_true_eq] at hb
              obtain ⟨hlen, hvl, hnm⟩ := swap_names hsw
              have hil := mapO_len h2
              rcases hlen with hlen | hlen
              · obtain ⟨t1, t2, rfl⟩ : ∃ t1 t2, ts = [t1, t2] := by
                  match ts, hlen with
                  | [a, b], _ => exact ⟨a, b, rfl⟩
                obtain ⟨a, b, rfl⟩ : ∃ a b, vs = [a, b] := by
                  match vs, hvl with
                  | [a, b], _ => exact ⟨a, b, rfl⟩
                obtain ⟨x, r1, n1, n2, rfl⟩ := mapO_cons hnm
                obtain ⟨y, r2, n3, n4, rfl⟩ := mapO_cons n2
                cases n4
                obtain ⟨p1, rfl⟩ := nameE_is n1
                obtain ⟨p3, rfl⟩ := nameE_is n3
                obtain ⟨i, i1, i2, i3⟩ := par_is h2 (k := 0) rfl rfl
                obtain ⟨j, j1, j2, j3⟩ := par_is h2 (k := 1) rfl rfl
                obtain ⟨rfl⟩ : is = [i, j] := by
                  match is, hil, i1, j1 with
                  | [a, b], _, i1, j1 => cases i1; cases j1; rfl
                have hij : i ≠ j := fun z => by
                  have := hb.1
                  rw [z] at this
                  simp at this
                obtain ⟨k1, k2, k3⟩ := G.stores x i i2
                obtain ⟨l1, l2, l3⟩ := G.stores y j j2
                refine ⟨fun pins s0 σ H D' I q => ?_⟩
                refine (L2.ps_par G.calm nd k1 l1 hij (by rw [G.sc]; exact i3) (by rw [G.sc]; exact j3) (ih.pa C X W G.toGd tk _ es h1) (hst I.ok.kind) rfl).run pins s0 σ H D' I ?_
                obtain ⟨g, en, s, r, e0, w, q⟩ := q
                refine sAv_seq r e0 q fun us H1 ws s1 g1 r1 e1 a1 hw q1 => ?_
                obtain ⟨e3, s3, hp, q2⟩ := sno_of q1
                obtain ⟨w1, w2, e4, s4, rfl, hp1, hp2⟩ := putsRev2 hp
                obtain ⟨v1, v2, rfl, hv1, hv2⟩ := reps2 hw
                obtain ⟨m1, m2, m3, m4⟩ := RelE.put r1 e1 hp1 (List.getElem?_eq_some_iff.mp l1).1 hv2 w.1 w.2
                have w4 : Wf X (σ.set j (some v2)) e4 := w.of m4 List.length_set
                obtain ⟨o1, o2, o3, o4⟩ := RelE.put m1 m2 hp2 (List.getElem?_eq_some_iff.mp k1).1 hv1 w4.1 w4.2
                refine ⟨v1, v2, rfl, ?_⟩
                have := q2 g1 H1 ((σ.set j (some v2)).set i (some v1)) ((m3.up (lv_of e1 _)).trans (o3.up (lv_of m2 _))) o1 o2 (w4.of o4 List.length_set) (o4.trans m4)
                rw [List.set_comm _ _ (Ne.symm hij)] at this
                exact this
              · obtain ⟨t1, t2, t3, rfl⟩ : ∃ t1 t2 t3, ts = [t1, t2, t3] := by
                  match ts, hlen with
                  | [a, b, c], _ => exact ⟨a, b, c, rfl⟩
                obtain ⟨a, b, c, rfl⟩ : ∃ a b c, vs = [a, b, c] := by
                  match vs, hvl with
                  | [a, b, c], _ => exact ⟨a, b, c, rfl⟩
                obtain ⟨x, r1, n1, n2, rfl⟩ := mapO_cons hnm
                obtain ⟨y, r2, n3, n4, rfl⟩ := mapO_cons n2
                obtain ⟨z, r3, n5, n6, rfl⟩ := mapO_cons n4
                cases n6
                obtain ⟨p1, rfl⟩ := nameE_is n1
                obtain ⟨p3, rfl⟩ := nameE_is n3
                obtain ⟨p4, rfl⟩ := nameE_is n5
                obtain ⟨i, i1, i2, i3⟩ := par_is h2 (k := 0) rfl rfl
                obtain ⟨j, j1, j2, j3⟩ := par_is h2 (k := 1) rfl rfl
                obtain ⟨l, l1, l2, l3⟩ := par_is h2 (k := 2) rfl rfl
                obtain ⟨rfl⟩ : is = [i, j, l] := by
                  match is, hil, i1, j1, l1 with
                  | [a, b, c], _, i1, j1, l1 => cases i1; cases j1; cases l1; rfl
                have hnd := hb.1
                simp only [List.nodup_cons, List.mem_cons, List.not_mem_nil, or_false, not_or, List.nodup_nil, and_true, not_false_eq_true] at hnd
                obtain ⟨⟨hij, hil'⟩, hjl⟩ := hnd
                obtain ⟨k1, k2, k3⟩ := G.stores x i i2
                obtain ⟨m1, m2, m3⟩ := G.stores y j j2
                obtain ⟨o1, o2, o3⟩ := G.stores z l l2
                refine ⟨fun pins s0 σ H D' I q => ?_⟩
                refine (L2.ps_par3 G.calm nd k1 m1 o1 hij hil' hjl (by rw [G.sc]; exact i3) (by rw [G.sc]; exact j3) (by rw [G.sc]; exact l3) (ih.pa C X W G.toGd tk _ es h1) (hst I.ok.kind) rfl).run pins s0 σ H D' I ?_
                obtain ⟨g, en, s, r, e0, w, q⟩ := q
                refine sAv_seq r e0 q fun us H1 ws s1 g1 r1 e1 a1 hw q1 => ?_
                obtain ⟨e3, s3, hp, q2⟩ := sno_of q1
                obtain ⟨w1, w2, w3, e4, s4, e5, s5, rfl, hp1, hp2, hp3⟩ := putsRev3 hp
                obtain ⟨v1, us, rfl, hv1, hw⟩ := hw.cons_of
                obtain ⟨v2, v3, rfl, hv2, hv3⟩ := reps2 hw
                obtain ⟨a1', a2, a3, a4⟩ := RelE.put r1 e1 hp1 (List.getElem?_eq_some_iff.mp o1).1 hv3 w.1 w.2
                have wa : Wf X (σ.set l (some v3)) e4 := w.of a4 List.length_set
                obtain ⟨b1, b2, b3, b4⟩ := RelE.put a1' a2 hp2 (List.getElem?_eq_some_iff.mp m1).1 hv2 wa.1 wa.2
                have wb : Wf X ((σ.set l (some v3)).set j (some v2)) e5 := wa.of b4 List.length_set
                obtain ⟨c1, c2, c3, c4⟩ := RelE.put b1 b2 hp3 (List.getElem?_eq_some_iff.mp k1).1 hv1 wb.1 wb.2
                refine ⟨v1, v2, v3, rfl, ?_⟩
                have := q2 g1 H1 _ (((a3.up (lv_of e1 _)).trans (b3.up (lv_of a2 _))).trans (c3.up (lv_of b2 _))) c1 c2 (wb.of c4 List.length_set) (c4.trans (b4.trans a4))
                rw [List.set_comm _ _ (Ne.symm hjl), List.set_comm _ _ (Ne.symm hil'), List.set_comm _ _ (Ne.symm hij)] at this
                exact this
        | none =>
          simp only [hsw, h1] at h
          cases hb : (Nat.beq ts.length vs.length && Nat.ble ts.length 100) with
          | false => rw [hb] at h; cases h
          | true =>
            rw [hb] at h
            simp only [cond_true] at h
            simp only [Bool.and_eq_true] at hb
            cases h2 : mapO (trTg n C) ts with
            | none => rw [h2] at h; cases h
            | some tg =>
              rw [h2] at h
              cases h
              have na : ∀ e ∈ ts, noStar e = true := fun e he => by
                obtain ⟨t, ht⟩ := mapO_all h2 e he
                exact tg_noStar ht
              refine ⟨fun pins s0 σ H D' I q => ?_⟩
              refine (L2.ps_asg (L2.pe_tup (ih.pa C X W G.toGd tk vs es h1)) (L2.pg_tup G.calm (pg_tgs ih G tk h2) (n := ts.length) (asg_all na X.env).1 (asg_all na X.env).2) rfl (hst I.ok.kind)).run pins s0 σ H D' I ?_
              obtain ⟨g, en, s, r, e0, w, q⟩ := q
              refine sAv_seq r e0 q fun us H1 ws s1 g1 r1 e1 a1 hw q1 => ?_
              obtain ⟨e3, s3, hp, q2⟩ := sno_of q1
              have hlen := putEach_len hp
              have htl := mapO_len h2
              refine ⟨?_, fun p0 hp0 => ⟨p0, us, rfl, .inl (.inl upd_same), ?_, ?_⟩⟩
              · rw [← hw.len, hlen, htl]
                exact Nat.le_trans (Nat.le_of_ble_eq_true hb.2) (by decide)
              · rw [← hw.len, hlen, htl]
              · have a2 : After [] g1 H1 s1 g1 (upd H1 p0 (.tup us)) s1 := After.aside (ext_new hp0)
                refine ⟨g1, en, s1, ws, e3, s3, r1.aside (ext_new hp0), e1.after r1.m a2, w, a2.reps hw, hp, fun g' H' σ' a' r' i' w' c' => ?_⟩
                exact q2 g' H' σ' (a2.up0.trans a') r' i' w' c'
  · rename_i hnt
    cases h1 : trTg n C t with
    | none => simp only [h1] at h; cases h
    | some ct =>
      cases h2 : trE n C e with
      | none => simp only [h1, h2] at h; cases h
      | some ce =>
        simp only [h1, h2] at h
        cases h
        by_cases hl : ∃ elt gs scope p, e = .ListComp elt gs scope p
        · obtain ⟨elt, gs, scope, p, rfl⟩ := hl
          exact hcomp elt gs scope p rfl ct ce h1 h2
        · have hs := nosw_of h2 (fun a b c d z => hl ⟨a, b, c, d, z⟩) (some t) pos.line X.env
          have hw : swappedStores [t] e X.env = pure none := by
            cases t <;> first
              | (exfalso; unfold trTg at h1; simp only [trNt] at h1; cases h1)
              | (cases e <;> first | rfl | (exact (hnt _ _ _ _ _ _ rfl rfl).elim))
          refine ps_imp (L2.ps_asg (ih.pe C X W G.toGd tk e ce h2).1 (pg_tg ih G tk h1) hs hw (h1 := by rw [asg_cons (tg_noStar h1)] <;> rfl)) fun D' σ H ⟨g, en, s, r, e0, w, q⟩ => ?_
          refine sEv_seq r e0 q fun v H1 x s1 g1 r1 e1 a1 hx q1 => ?_
          obtain ⟨e3, s3, hp, q2⟩ := sno_of q1
          exact ⟨g1, en, s1, x, e3, s3, r1, e1, w, hx, hp, fun g' H' σ' a' r' i' w' c' => q2 g' H' σ' a' r' i' w' c'⟩
end
end Ev
/-! EvJ4: a comprehension assigned; every statement. -/
namespace Ev
open PySem PySem.Spec PyProof.Rows
open L2 (V HO Hp Cx Inv PE PT PA PS PSs PG PGs PI PW PO PK PTs RelV Vals upd upd_same upd_ne SqL SqT TE TT TA TS TG TGs TI TO WX XK VK Room Takes EP FpOk Ends)
section
variable {Z : Zx} {cs : List Nat} {W : WX} {X : Cx} {σ σ' : L2.St} {g g1 g2 : Gh} {H H1 H2 : Hp} {s s1 s2 s' : S} {en en' : Env} {α β : Type} {K : PySem.W.Frag} {d n : Nat} {C : Ctx} {cF : Nat → List D → S → R D} {cV : D → List D → S → R D} {D' : Ends} {cls : List (Option Nat × List Str)}
theorem comp_parts {m : Nat} {elt : Expr} {gs : List Comprehension} {scope : Scope} {p : Pos} {c : E} (h : trE (m + 1) C (.ListComp elt gs scope p) = some c) : ∃ tg it ifs cit ctg cifs celt, gs = [⟨tg, it, ifs, 0⟩] ∧ Nat.ble ifs.length 1 = true ∧ compOk C scope = true ∧
    trI m C (isTup tg) it = some cit ∧ trNt { C with sc := scope } 5 tg = some ctg ∧ trL m { C with sc := L2.relS scope C.sc } ifs = some cifs ∧ trE m { C with sc := L2.relS scope C.sc } elt = some celt ∧ c = .comp ((ownOf C scope).map (·.2)) (cellsOf C scope) ctg cit cifs celt := by
  cases gs with
  | nil => unfold trE at h; cases h
  | cons g1 gr =>
  cases gr with
  | cons _ _ =>
    obtain ⟨a1, a2, a3, a4⟩ := g1
    unfold trE at h
    have h : (none : Option E) = some c := h
    cases h
  | nil =>
  obtain ⟨tg, it, ifs, ia⟩ := g1
  unfold trE at h
  have h2' : (bif decide (ia = 0) && Nat.ble ifs.length 1 && compOk C scope then (match trI m C (isTup tg) it, trNt { C with sc := scope } 5 tg, trL m { C with sc := L2.relS scope C.sc } ifs, trE m { C with sc := L2.relS scope C.sc } elt with
      | some it, some tg, some ifs, some elt => some (E.comp ((ownOf C scope).map (·.2)) (cellsOf C scope) tg it ifs elt)
      | _, _, _, _ => none) else none) = some c := h
  cases hb : (decide (ia = 0) && Nat.ble ifs.length 1 && compOk C scope) with
  | false => rw [hb] at h2'; cases h2'
  | true =>
    rw [hb] at h2'
    rw [cond_true] at h2'
    clear h
    simp only [Bool.and_eq_true, decide_eq_true_eq] at hb
    obtain ⟨⟨h0, hl⟩, hok⟩ := hb
    subst h0
    cases h1 : trI m C (isTup tg) it with
    | none => simp only [h1] at h2'; cases h2'
    | some cit =>
      cases h2 : trNt { C with sc := scope } 5 tg with
      | none => simp only [h1, h2] at h2'; cases h2'
      | some ctg =>
        cases h3 : trL m { C with sc := L2.relS scope C.sc } ifs with
        | none => simp only [h1, h2, h3] at h2'; cases h2'
        | some cifs =>
          cases h4 : trE m { C with sc := L2.relS scope C.sc } elt with
          | none => simp only [h1, h2, h3, h4] at h2'; cases h2'
          | some ce =>
            simp only [h1, h2, h3, h4] at h2'
            cases h2'
            exact ⟨tg, it, ifs, cit, ctg, cifs, ce, rfl, hl, hok, h1, h2, h3, rfl, rfl⟩
theorem asg_comp (ihA : ∀ n, IHE Z d cF cV n) (G : Gs Z d C X) (tk : Takes X W) {t : Expr} {elt : Expr} {gs : List Comprehension} {scope : Scope} {p pos : Pos} {ct : Tg} {ce : E} (h1 : trTg n C t = some ct) (h2 : trE n C (.ListComp elt gs scope p) = some ce) :
    PS X (.Assign [t] (.ListComp elt gs scope p) pos) (tSv Z C.cs X W (evS cF cV Z.pg.cls (.asg ct ce))) := by
  have nd : X.N.Nodup := by rw [G.N]; exact G.nd
  have plain : swapsWith (.ListComp elt gs scope p) (some t) pos.line X.env = pure false → PS X (.Assign [t] (.ListComp elt gs scope p) pos) (tSv Z C.cs X W (evS cF cV Z.pg.cls (.asg ct ce))) := fun hs => by
    have hw : swappedStores [t] (.ListComp elt gs scope p) X.env = pure none := by
      cases t <;> rfl
    refine ps_imp (L2.ps_asg ((ihA n).pe C X W G.toGd tk _ ce h2).1 (pg_tg (ihA n) G tk h1) hs hw (h1 := by rw [asg_cons (tg_noStar h1)] <;> rfl)) fun D' σ H ⟨g, en, s, r, e0, w, q⟩ => ?_
    refine sEv_seq r e0 q fun v H1 x s1 g1 r1 e1 a1 hx q1 => ?_
    obtain ⟨e3, s3, hp, q2⟩ := sno_of q1
    exact ⟨g1, en, s1, x, e3, s3, r1, e1, w, hx, hp, fun g' H' σ' a' r' i' w' c' => q2 g' H' σ' a' r' i' w' c'⟩
  by_cases hn : ∃ y py, t = .Name y py
  · obtain ⟨y, py, rfl⟩ := hn
    cases hb : (X.env.blockKind == .function && X.env.kindOf y == some .local && py.line == p.line && !(scope.names.any fun (n, k) => n == y && (k == .local || k == .cell))) with
    | false =>
      refine plain ?_
      show pure _ = _
      exact congrArg pure hb
    | true =>
      cases n with
      | zero => unfold trE at h2; cases h2
      | succ m =>
        obtain ⟨tg, it, ifs, cit, ctg, cifs, celt, rfl, hl, hok, i1, i2, i3, i4, rfl⟩ := comp_parts h2
        simp only [Bool.and_eq_true, beq_iff_eq] at hb
        obtain ⟨⟨⟨_, hk⟩, _⟩, _⟩ := id hb
        have hk : X.env.scope.names.lookup y = some .local := hk
        unfold trTg at h1
        have h1 : (trNt C 5 (.Name y py)).map Tg.nm = some ct := h1
        unfold trNt at h1
        have h1 : ((C.slotW y).map Nt.v).map Tg.nm = some ct := h1
        cases hsl : C.slotW y with
        | none => rw [hsl] at h1; cases h1
        | some i =>
          rw [hsl] at h1
          cases h1
          obtain ⟨j1, j2, j3⟩ := G.stores y i hsl
          refine ps_imp (ps_setComp (ihA m) G.toGd tk hl hok i1 i2 i3 i4 j1 hk ?_) fun D' σ H ⟨g, en, s, r, e0, w, q⟩ => ?_
          · show pure _ = _
            refine congrArg pure ?_
            simp only [Bool.and_eq_true, beq_iff_eq]
            exact hb
          · refine sEv_seq r e0 q fun v H1 x s1 g1 r1 e1 a1 hx q1 => ?_
            obtain ⟨e3, s3, hp, q2⟩ := sno_of q1
            have hp : en.put i x s1 = .ok e3 s3 := by
              unfold putTg at hp
              have hp : putNt en s1 (.v i) x = .ok e3 s3 := hp
              unfold putNt at hp
              exact hp
            obtain ⟨k1, k2, k3, k4⟩ := RelE.put r1 e1 hp (List.getElem?_eq_some_iff.mp j1).1 hx w.1 w.2
            exact q2 g1 H1 _ (k3.up (lv_of e1 _)) k1 k2 (w.of k4 List.length_set) k4
  · refine plain ?_
    cases t <;> first | rfl | (exact (hn ⟨_, _, rfl⟩).elim)
end
end Ev
/-! EvJ5: every translated statement is read rightly. -/
namespace Ev
open PySem PySem.Spec PyProof.Rows
open L2 (V HO Hp Cx Inv PE PT PA PS PSs PG PGs PI PW PO PK PTs RelV Vals upd upd_same upd_ne SqL SqT TE TT TA TS TG TGs TI TO WX XK VK Room Takes EP FpOk Ends)
section
variable {Z : Zx} {cs : List Nat} {W : WX} {X : Cx} {d n : Nat} {C : Ctx} {cF : Nat → List D → S → R D} {cV : D → List D → S → R D}
theorem ihs_zero : IHS Z d cF cV 0 :=
  { ps := fun C X W G tk st c h => by unfold trS at h; cases h
    pss := fun C X W G tk b c h => by unfold trSs at h; cases h
    as := fun C X W G tk t e c pos h => by unfold trAsg at h; cases h }
theorem ihs_all (ihA : ∀ n, IHE Z d cF cV n) (xo : ExOk Z d cF cV) : ∀ n, IHS Z d cF cV n
  | 0 => ihs_zero
  | n + 1 =>
    have is := ihs_all ihA xo n
    { ps := fun C X W G tk st c h => ss_ps xo (ihA n) is G tk h
      pss := fun C X W G tk b c h => ss_pss is G tk h
      as := fun C X W G tk t e c pos h => st_as (ihA n) G tk (fun elt gs scope p he ct ce h1 h2 => by subst he; exact asg_comp ihA G tk h1 h2) h }
end
end Ev
/-! EvK: own errors with one field: __init__(self, f): self.f = f (turned from skel 42). -/
namespace Ev
open PySem PySem.Spec PyProof.Rows PySem.W PySem.Calls PySem.HandSPX
def iA (fl : Str) (p1 p2 : Pos) : Arguments := { posonlyargs := [], args := [{ arg := "self", annotation := none, pos := p1 }, { arg := fl, annotation := none, pos := p2 }], vararg := none, kwonlyargs := [], kw_defaults := [], kwarg := none, defaults := [] }
def iB (fl : Str) (q1 q2 q3 q4 : Pos) : List Stmt := [.Assign [.Attribute (.Name "self" q1) fl q2] (.Name fl q3) q4]
def iS (fl : Str) : Scope := { kind := .function, names := [(PySem.Str.ofString "self", .local), (fl, .local)], isGenerator := false, isCoroutine := false, more := [] }
/-- what the tables say of a class C with the field fl -/
structure OwnTxt (K : Frag) (C fI : Addr) (fl qn : Str) : Prop where
  ns : (fl == ("self" : Str)) = false
  nd : (fl == ("__debug__" : Str)) = false
  cls : ∃ nm q N bs bm sn sub ab col dd k0 k1 k2 k3 k5, K.lookup C = some (excClassObj nm q C N bs bm true sn sub ab col dd k0 k1 k2 k3 k5 "ValueError.__new__") ∧ refsVE bm = true
  sa : findIn K (.ref C) "__setattr__" = some (some (.builtin "object.__setattr__"))
  noN : findIn K (.ref C) fl = some none
  iC : findIn K (.ref C) "__init__" = some (some (.ref fI))
  tC : typeIn K (.ref fI) = some (.type "function")
  kC : keepIn K (.ref C) = true
  exC : subIn K (.ref C) (.type "BaseException") = some true
  tyC : typeIn K (.ref C) = some (.type "type")
  fn : ∃ (oc : Value) (od : Option Addr) (kV doc pm : Value) (an : Option Addr) (cdv ct : Value) (osl : Array (Option Value)) (p1 p2 q1 q2 q3 q4 : Pos),
    K.lookup fI = some ⟨oc, od, .func (fnOf "__init__" qn (iA fl p1 p2) (iB fl q1 q2 q3 q4) (iS fl) .none kV doc pm an cdv ct), osl⟩ ∧ codeIn K cdv qn = true
theorem one_szE (v : Value) : [v].length ≤ sizeLine := by
  rw [sizeLine_eq]
  exact (by decide : 1 ≤ 16777216)
theorem ldOwn {M : Model} {s : Shared} {name : Str} {scope : Scope} {L a : Addr} {cd : Value} {m : Str → Option Value} {x : Str} {pos : Pos} {v : Value} {Q : Value → Shared → Prop} {A : Around} {E : Value → Shared → Prop} (hn : s.heap.Ns L m) (hv : m x = some v) (h : Q v s)
    (hk : scope.kind = .function) (hl : (envOfC name scope L a cd).kindOf x = some .local) (hd : (x == ("__debug__" : Str)) = false) :
    wpAny M A (eval (.Name x pos) (envOfC name scope L a cd)) Q E s := wpAny_Name (wpAny_loadName_local hk hl hn hv h) hd
structure IniEnd (fl : Str) (h h' : Heap) (x C dx t1 : Addr) (v : Value) : Prop where
  keep : ∀ b o, b ≠ x → h.get? b = some o → h'.get? b = some o
  obj : h'.get? x = some { cls := .ref C, dict := some dx, data := .fields #[.ref t1, .none, .none, .none, .bool false, .none] }
  dbig : h.objs.size ≤ dx
  dne : dx ≠ x
  ns : h'.Ns1 dx (fun y => if y = fl then some v else none)
structure MadeOwn (fl : Str) (h h' : Heap) (e C d : Addr) (v : Value) : Prop where
  keep : ∀ b o, h.get? b = some o → h'.get? b = some o
  new : h.objs.size ≤ e
  obj : ∃ oe vs, h'.get? e = some oe ∧ oe.cls = .ref C ∧ oe.dict = some d ∧ oe.data = .fields vs ∧ vs[1]? = some .none
  dbig : h.objs.size ≤ d
  dne : d ≠ e
  ns : h'.Ns1 d (fun y => if y = fl then some v else none)
section
variable {prog : Program} {w : World} {A : Around} {E : Value → Shared → Prop} {R : Result → Shared → Prop} {s : Shared} {K : Frag} {C fI : Addr} {fl qn : Str}
theorem own_init (T : OwnTxt K C fI fl qn) {x t0 : Addr} {v : Value} (X : K.In s.heap) (hlim : s.heap.NoLimit) (hx : s.heap.get? x = some (excO C t0)) (hnx : K.lookup x = none) (hroom : A.depth < recursionLimit)
    (hq : ∀ h' tk dx, IniEnd fl s.heap h' x C dx t0 v → R (.ok (.ret .none)) { s with heap := h', toks := tk }) :
    codeAny (model prog w) A (.call (.ref fI) ⟨[.ref x, v], []⟩) R s := by
  obtain ⟨oc, od, kV, doc, pm, an, cdv, ct, osl, p1, p2, q1, q2, q3, q4, ho, hcd⟩ := T.fn
  obtain ⟨nm, q, N, bs, bm, sn, sub, ab, col, dd, k0, k1, k2, k3, k5, hC, hbm⟩ := T.cls
  have hsf : (("self" : Str) == fl) = false := by
    cases h : (("self" : Str) == fl) with
    | false => rfl
    | true => have := T.ns; rw [← eq_of_beq h] at this; exact absurd this (by decide)
  have hne : fl ≠ "self" := fun h => by have := T.ns; rw [h] at this; exact absurd this (by decide)
  have hlk : (iS fl).names.lookup fl = some NameKind.local := by
    show List.lookup fl [(("self" : Str), NameKind.local), (fl, .local)] = _
    rw [List.lookup_cons, T.ns]
    simp
  have hls : (iS fl).names.lookup ("self" : Str) = some NameKind.local := by
    show List.lookup ("self" : Str) [(("self" : Str), NameKind.local), (fl, .local)] = _
    rw [List.lookup_cons]
    simp
  have hcl : clsIn K C = some { name := nm, bases := bs, mro := .ref C :: bm, ns := N, qualname := q, hasDict := true, slotNames := sn, subclasses := sub, abstract := ab, collection := col, hasDel := false } := by unfold clsIn; rw [hC] <;> rfl
  refine Att.call_fn (binds := [("self", .ref x), (fl, v)]) X hlim ho hcd hroom (BindsTo.of_eq ?_) ?_ (fun s₁ IC => ?_) rfl rfl rfl
  · refine (bind_plain (fd := fnOf "__init__" qn (iA fl p1 p2) (iB fl q1 q2 q3 q4) (iS fl) .none kV doc pm an cdv ct) (us := [.ref x, v]) rfl rfl ?_ rfl).trans rfl
    show (["self", fl] : List Str).Nodup
    simp [hne.symm]
  · have e1 : ((iS fl).names.lookup ("self" : Str) == some NameKind.local || (iS fl).names.lookup ("self" : Str) == some NameKind.cell) = true := by rw [hls]; rfl
    have e2 : ((iS fl).names.lookup fl == some NameKind.local || (iS fl).names.lookup fl == some NameKind.cell) = true := by rw [hlk]; rfl
    show (((iS fl).names.lookup ("self" : Str) == some NameKind.local || (iS fl).names.lookup ("self" : Str) == some NameKind.cell) && (((iS fl).names.lookup fl == some NameKind.local || (iS fl).names.lookup fl == some NameKind.cell) && true)) = true
    rw [e1, e2]
    rfl
  obtain ⟨h₁, tk₁, rfl⟩ := IC.toInCall.same
  have k : ∀ b o, s.heap.get? b = some o → h₁.get? b = some o := IC.toInCall.keep
  have hn := IC.toInCall.ns
  have hxL : s.heap.objs.size ≠ x := Nat.ne_of_gt (Heap.lt_size hx)
  have X₁ : K.In h₁ := X.keeps k
  have hx₁ := k _ _ hx
  show wpAny _ _ (execs _ _) _ _ _
  refine wpAny_execs_cons (plainObj_wpAny_Assign_Attribute ?_)
  refine ldOwn (v := v) hn ?_ (ldOwn (v := .ref x) hn ?_ ?_ rfl hls (by decide)) rfl hlk T.nd
  · exact L2.bindL_get (P := ["self", fl]) (vs := [.ref x, v]) (i := 1) (by simp [hne.symm]) rfl rfl hlk
  · exact L2.bindL_get (P := ["self", fl]) (vs := [.ref x, v]) (i := 0) (by simp [hne.symm]) rfl rfl hls
  refine set_plain X₁ (ox := excO C t0) (od := none) ⟨hx₁, rfl, rfl, trivial⟩ T.sa ?_
  refine exc_osa X₁ hx₁ hcl (show refsVE (.ref C :: bm) = true from hbm) rfl T.noN (fun h₃ tk₃ dx k₃ dn dne hx₃ hn₃ => ?_)
  show wpAny _ _ (execs _ _) _ _ _
  have z : s.heap.objs.size < h₁.objs.size := hn.lt
  exact wpAny_execs_nil (hq h₃ tk₃ dx ⟨fun b o hb e => k₃ b o hb (k b o e), hx₃, Nat.le_of_lt (Nat.lt_of_lt_of_le z dn), dne, hn₃⟩)
theorem own_made (T : OwnTxt K C fI fl qn) {v : Value} (X : K.In s.heap) (hlim : s.heap.NoLimit) (hroom : A.depth + 1 < recursionLimit)
    (hq : ∀ h' tk e d, MadeOwn fl s.heap h' e C d v → R (.ok (.ret (.ref e))) { s with heap := h', toks := tk }) :
    codeAny (model prog w) A (.call (.ref C) ⟨[v], []⟩) R s := by
  obtain ⟨nm, q, N, bs, bm, sn, sub, ab, col, dd, k0, k1, k2, k3, k5, hC, hbm⟩ := T.cls
  obtain ⟨hp, g, dr, tk, os⟩ := s
  have k : ∀ b o, hp.get? b = some o → ((hp.push (kdv_tup [v])).push (excO C hp.objs.size)).get? b = some o := fun b o e => Heap.get?_push_of_some _ (Heap.get?_push_of_some _ e)
  have hget : ((hp.push (kdv_tup [v])).push (excO C hp.objs.size)).get? (hp.objs.size + 1) = some (excO C hp.objs.size) := by heap_get
  have hnx : K.lookup (hp.objs.size + 1) = none := by
    cases e : K.lookup (hp.objs.size + 1) with
    | none => rfl
    | some o =>
      have z : hp.get? (hp.objs.size + 1) = some o := X _ _ e
      exact absurd (Nat.lt_of_succ_lt (Heap.lt_size z)) (Nat.lt_irrefl _)
  refine call_own F.excBase_ValueError (fun X => refsVE_contains X bm hbm) (X _ _ hC) (looks_findIn X T.iC) (fun self => bind_fn X self T.tC) (one_szE v) ?_
  refine own_init (s := ⟨(hp.push (kdv_tup [v])).push (excO C hp.objs.size), g, dr, tk, os⟩) T (X.keeps k) (hlim.keeps k) hget hnx ?_ fun h' tk' dx ⟨k', hx, dn, dne, hns⟩ => ?_
  · show A.depth + 1 < recursionLimit
    exact hroom
  · have old : ∀ b o, hp.get? b = some o → h'.get? b = some o := fun b o e => k' b o (Nat.ne_of_lt (Nat.lt_succ_of_lt (Heap.lt_size e))) (k b o e)
    have z : hp.objs.size + 1 + 1 ≤ dx := by
      first
        | (simpa only [Heap.size_push] using dn)
        | exact dn
        | (have q := dn; rw [Heap.size_push, Heap.size_push] at q; exact q)
    exact ⟨rfl, hq h' tk' (hp.objs.size + 1) dx ⟨old, Nat.le_succ _, ⟨_, _, hx, rfl, rfl, rfl, rfl⟩, Nat.le_trans (Nat.le_trans (Nat.le_succ _) (Nat.le_succ _)) z, dne, hns⟩⟩
end
end Ev
/-! EvK2: own errors raised. -/
namespace Ev
open PySem PySem.Spec PyProof.Rows
open L2 (V HO Hp Cx Inv PE PT PA PS PSs PG PGs PI PW PO PK PTs RelV Vals upd upd_same upd_ne SqL SqT TE TT TA TS TG TGs TI TO WX XK VK Room Takes EP FpOk Ends RelO)
theorem relO_own {v : V} {v' : Value} (r : RelV v v') (fl f : Str) : RelO (List.lookup f [(fl, v)]) (if f = fl then some v' else none) := by
  by_cases hw : f = fl
  · subst hw
    rw [if_pos rfl]
    have q : List.lookup f [(f, v)] = some v := by simp [List.lookup]
    rw [q]
    exact r
  · rw [if_neg hw]
    have q2 : List.lookup f [(fl, v)] = none := by
      rw [List.lookup_cons, beq_false_of_ne hw]
      rfl
    rw [q2]
    trivial
/-- what is asked of the text's classes -/
def ClsOk (Z : Zx) : Prop := ∀ (x : Str) (i : Nat), Z.tx.cls.findIdx? (fun p => p.1 == x && Nat.beq p.2.length 1) = some i → Z.mg x = some (.ref (Z.ca i)) ∧ ∃ par fl fI qn, Z.pg.cls[i]? = some (par, [fl]) ∧ OwnTxt Z.K (Z.ca i) fI fl qn
section
variable {Z : Zx} {cs : List Nat} {W : WX} {X : Cx} {g g1 g2 : Gh} {H H1 H2 : Hp} {s s1 s2 s' : S} {en en' : Env} {d n : Nat} {C : Ctx} {cF : Nat → List D → S → R D} {cV : D → List D → S → R D} {D' : Ends} {cA fI : Addr} {fl qn : Str}
def tMkF (cA : Addr) (fl : Str) (ta : TA) : L2.St → Hp → XK → Prop := fun σ H Q => ta σ H fun vs H1 => ∃ v, vs = [v] ∧ ∀ d, H1 d = none → Q (.ref cA) (some d) (upd H1 d (.xd [(fl, v)]))
theorem pmk_f {x : Str} {a : Expr} {ta : TA} {p pos : Pos} {k : Nat} (T : OwnTxt X.K cA fI fl qn) (hr : Room (k + 1) X.A) (ha : PA X [a] ta) (hg : L2.Gl X x) (hm : X.mg x = some (.ref cA)) (hdb : (x == ("__debug__" : Str)) = false)
    (he : starEach (a :: []) X.env = (false, eval a X.env) :: starEach [] X.env) (hpl : (backTo pos (starEach [] X.env)).any (·.1) = false) :
    L2.PMk X (.Call (.Name x p) [a] [] pos) (tMkF cA fl ta) := by
  intro pins s σ H Q I h
  refine wpAny_Call_Name_kw (L2.ld_glob I hg hm ?_ hdb)
  refine PySem.W.callWith_K (h₀ := X.base) I.ok.mod.kin T.kC (L2.thn (ha.run pos pins s σ H _ I h) fun us s1 hh => ?_) he hpl
  obtain ⟨vs, H1, I1, r1, v, ev, q1⟩ := hh
  subst ev
  refine ⟨I1.kIn, ?_⟩
  cases r1 with
  | cons rv rn =>
    rename_i v' us'
    cases rn
    show wpAny _ _ (call (.ref cA) [v']) _ _ _
    have hlim := I1.nolimit
    obtain ⟨hp, g, dr, tk, os⟩ := s1
    refine wpAny_call (own_made T I1.kIn hlim (by have := hr.dp; omega) fun h' tk' e d M => ?_)
    show L2.MkP X pins σ Q (.ref e) ⟨h', g, dr, tk', os⟩
    obtain ⟨oe, fv, hoe, hc, hd, hdat, h1⟩ := M.obj
    have hns := M.ns
    obtain ⟨G', g1, g2⟩ := L2.restrict h' fun b => decide (b ≠ e)
    have gk : ∀ b, b ≠ e → G'.get? b = h'.get? b := fun b hb => g1 b (decide_eq_true hb)
    have ge : G'.get? e = none := g2 e (by simp)
    have old : ∀ b o, hp.get? b = some o → G'.get? b = some o := fun b o q => (gk b (Nat.ne_of_lt (Nat.lt_of_lt_of_le (Heap.lt_size q) M.new))).trans (M.keep b o q)
    have ob : L2.ObjOk X.prog X.w (upd H1 d (.xd [(fl, v)])) G' d (.xd [(fl, v)]) :=
      ⟨_, hns.at (fun o q => (gk d M.dne).trans q), fun f => relO_own rv fl f⟩
    have J : Inv X pins σ (upd H1 d (.xd [(fl, v)])) ⟨G', g, dr, tk', os⟩ := I1.laid (t' := tk') old M.dbig ob
    refine ⟨e, oe, fv, ⟨G', g, dr, tk', os⟩, _, .ref cA, some d, rfl, J, fun b o q => ?_, ge, hoe, ⟨hc, hd⟩, hdat, h1, ?_, rfl, I1.bare, L2.raises_own T.exC T.tyC, q1 d (I1.hok.fresh M.dbig)⟩
    · by_cases hb : b = e
      · have q' : G'.get? b = some o := q
        rw [hb, ge] at q'; cases q'
      · exact (gk b hb).symm.trans q
    · rw [upd_ne (Ne.symm M.dne)]
      exact I1.hok.fresh M.new
theorem st_rais (co : ClsOk Z) (hd : 0 < d) (ih : IHE Z d cF cV n) (G : Gs Z d C X) (tk : Takes X W) {x : Str} {px : Pos} {e : Expr} {cp p : Pos} {i : Nat} {ces : Es} (hg : isGl C x = true) (h1 : C.T.cls.findIdx? (fun p => p.1 == x && Nat.beq p.2.length 1) = some i) (h2 : trL n C [e] = some ces) :
    PS X (.Raise (some (.Call (.Name x px) [e] [] cp)) none p) (tSv Z C.cs X W (evS cF cV Z.pg.cls (.rais i ces))) := by
  rw [G.T] at h1
  obtain ⟨hm, par, fl, fI, qn, hc, T⟩ := co x i h1
  obtain ⟨s1, s2⟩ := starL_of h2 X.env cp
  refine ps_imp (L2.ps_raise G.calm tk (pmk_f (k := d - 1) (by rw [G.K]; exact T) (by rw [Nat.sub_add_cancel hd]; exact G.room) (ih.pa C X W G.toGd tk [e] ces h2) (gl_of G.toGd hg).1 (by rw [G.mg]; exact hm) (gl_of G.toGd hg).2 s1 s2)) fun D' σ H ⟨g, en, s, r, e0, w, q⟩ => ?_
  refine sAv_seq r e0 q fun vs H1 xs s1 g1 r1 e1 a1 hx q1 => ?_
  have q1 : FinS Z C.cs X W D' g1 H1 s1 en.ce (match Z.pg.cls[i]? with
    | some (_, fs) => bif Nat.beq fs.length xs.length then .ex i xs s1 else .bad
    | none => .bad) := q1
  rw [hc] at q1
  have q1 : FinS Z C.cs X W D' g1 H1 s1 en.ce (bif Nat.beq [fl].length xs.length then .ex i xs s1 else .bad) := q1
  cases hl : Nat.beq [fl].length xs.length with
  | false => rw [hl] at q1; exact q1.elim
  | true =>
    rw [hl] at q1
    have q1 : ∀ σ' cls d H', ExK Z g1.lv g1 H1 s1 i xs s1 cls d H' → W cls d σ' H' := q1
    have hl : [fl].length = xs.length := Nat.eq_of_beq_eq_true hl
    cases xs with
    | nil => cases hl
    | cons w ws =>
      cases ws with
      | cons _ _ => simp at hl
      | nil =>
        unfold Reps at hx
        obtain ⟨v, us, rfl, hw, hr⟩ := hx
        · unfold Reps at hr
          cases hr
          refine ⟨v, rfl, fun dx hd => q1 _ _ _ _ ⟨rfl, g1, After.aside (ext_new hd), r1.aside (ext_new hd), dx, [(fl, v)], [v], [fl], par, rfl, upd_same, ?_, hc, ?_⟩⟩
          · exact Reps.mono ⟨[], (List.append_nil _).symm⟩ (fun a xs e => ext_new hd _ _ e) [w] [v] (by unfold Reps; exact ⟨v, [], rfl, hw, by unfold Reps; rfl⟩)
          · intro j f u hj hu
            cases j with
            | zero =>
              simp at hj hu
              subst hj; subst hu
              simp [List.lookup]
            | succ j => simp at hj
end
end Ev
/-! EvK3: a try whose clauses all bind a name and all leave by return. -/
namespace Ev
open PySem PySem.Spec PyProof.Rows
open L2 (V HO Hp Cx Inv PE PT PA PS PSs PG PGs PI PW PO PK PTs RelV Vals upd upd_same upd_ne SqL SqT TE TT TA TS TG TGs TI TO WX XK VK Room Takes EP FpOk Ends Zc Names Sky)
/-- a clause: the class named, its name's slot, what its suite reads -/
abbrev Cl := Value × Nat × (Addr → Value → Option Addr → TS)
/-- only by return -/
def rtE (D : Ends) : Ends := { nx := fun _ _ => False, rt := D.rt, bk := fun _ _ => False, ct := fun _ _ => False }
def wCl (K : PySem.W.Frag) (Wo : WX) (D : Ends) : List Cl → WX
  | [] => Wo
  | c :: r => fun cl d σ H => ∃ b, PySem.W.exmOne K cl c.1 = some b ∧ (b = true → ∀ e, H e = none → c.2.2 e cl d (rtE D) (σ.set c.2.1 (some (.ref e))) H) ∧ (b = false → wCl K Wo D r cl d σ H)
inductive ClsR (X : Cx) : List ExceptHandler → List Cl → Prop
  | nil : ClsR X [] []
  | cons {x n : Str} {v : Value} {i : Nat} {t : Addr → Value → Option Addr → TS} {b : Stmt} {r : List Stmt} {p q : Pos} {hs : List ExceptHandler} {l : List Cl} (hv : Names X x v) (hi : X.N[i]? = some n) (hk : X.env.kindOf n = some .local)
      (hu : ∀ (e : Addr) (o : Obj) (cl : Value) (d : Option Addr) (pn : List (Addr × Obj)), Zc cl d o → (∃ fs, o.data = .fields fs) → PSs (X.suite e ((e, o) :: pn)) (b :: r) (t e cl d)) (tl : ClsR X hs l) :
      ClsR X (.ExceptHandler (some (.Name x p)) (some n) (b :: r) q :: hs) ((v, i, t) :: l)
section
variable {X : Cx} {body : List Stmt} {hd : ExceptHandler} {hs : List ExceptHandler} {l : List Cl} {pos : Pos} {tb : WX → TS} {Wo : WX}
theorem ps_tryA (st : X.stack = X.env :: X.outer) (fr : X.env.frame = some X.env.locals) (nd : X.N.Nodup) (tk : Takes X Wo)
    (bd : ∀ (W : WX) (pn : List (Addr × Obj)) (xe : Value → Shared → Prop), Takes (X.tr pn xe) W → PassesOwn (model X.prog X.w) X.A X.env xe → PSs (X.tr pn xe) body (tb W)) (cl : ClsR X (hd :: hs) l) :
    PS X (.Try body (hd :: hs) [] [] pos) (fun D σ H => tb (wCl X.K Wo D l) D σ H) := by
  refine ⟨fun pins s0 σ H D I hw => ?_⟩
  have okX := I.ok
  have frm : X.A.frames = some (X.env :: X.outer) := okX.frames.trans (congrArg some st)
  refine wpAny_Try_except (wpAny_mono ((bd (wCl X.K Wo D l) (X.pn ++ pins)
      (fun e t1 => wpAny (model X.prog X.w) X.A (noteFrame e X.env) (fun _ t2 => wpAny (model X.prog X.w) X.A (setFlight e none) (fun _ t3 => wpAny (model X.prog X.w) X.A (handleBy e X.env (hd :: hs)) (L2.SP X pins D) X.xe t3) X.xe t2) X.xe t1)
      (fun u t xx => ?_) PassesOwn.looking).run [] s0 σ H D (I.toTry _) hw) (fun f t1 q => ?_) fun e t1 he => he)
  · obtain ⟨e, B, tI, pins', σ1, H1, ec, ed, rfl, J', nb, up, sky, ne, os, ag, w⟩ := xx
    have J : Inv X pins σ1 H1 tI := J'.ofTry okX
    show wpAny _ X.A (noteFrame (.ref e) X.env) _ _ t
    refine Sky.land Zc.steady frm fr (st ▸ sky) fun k fk upk => ?_
    have up2 := up.trans upk
    obtain ⟨o, fs, he, hz, hdt⟩ := fk.there
    have nfr : e ∉ L2.frs (X.env :: X.outer) := fun hm => by
      obtain ⟨_, o', e', hnf⟩ := fk.2.2.1.mem hm
      cases he.symm.trans e'
      exact hnf _ hdt
    have nL : e ≠ X.env.locals := fun z => nfr (List.mem_filterMap.mpr ⟨_, List.mem_cons_self, z ▸ fr⟩)
    have nF : e ∉ X.fs := fun hm => by
      obtain ⟨en, m, q⟩ := List.mem_filterMap.mp hm
      exact nfr (List.mem_filterMap.mpr ⟨en, List.mem_cons_of_mem _ m, q⟩)
    have J3 : Inv X pins σ1 H1 { t with heap := k } := J.landed nb fk.1 up2 os ag
    have S3 := J3.suite he hdt ne nL nF
    have go : ∀ {hs' : List ExceptHandler} {l' : List Cl}, ClsR X hs' l' → wCl X.K Wo D l' ec ed σ1 H1 → wpAny (model X.prog X.w) X.A (handleBy (.ref e) X.env hs') (L2.SP X pins D) X.xe { t with heap := k } := by
      intro hs' l' hc
      induction hc with
      | nil =>
        intro wo
        refine wpAny_handleBy_nil ?_
        obtain ⟨_, _, _, oe, vs, T, oT, ts, g1, g2, g3, g4, g5⟩ := id fk
        unfold PySem.passOn
        refine wpAny_bind (wpAny_field g1 g3 g4 ?_)
        rw [if_neg (show ¬ ((Value.ref T == Value.none) = true) from by simp)]
        have last : wpAny (model X.prog X.w) X.A (setFlight (.ref e) X.env.frame) (fun _ t4 => wpAny (model X.prog X.w) X.A (throw (.ref e) : Sem Flow) (L2.SP X pins D) X.xe t4) X.xe { t with heap := k } := by
          rw [fr]
          exact HandSPX.setFlight_upZ fk fun k4 hk4 up4 => wpAny_throw (tk _ _ ⟨e, B, tI, pins, σ1, H1, ec, ed, rfl, J, nb, up2.trans up4, .inr (.inr (st.symm ▸ hk4)), ne, os, ag, wo⟩)
        first
          | exact wpAny_bind (wpAny_pure (wpAny_bind last))
          | exact wpAny_bind last
      | @cons x n v i ts b r p q hs2 l2 hv hi hk hu tl ih =>
        rintro ⟨y, hy, yes, no⟩
        refine wpAny_handleBy_cons (codeAny_handlers_test ?_) (by intro z; cases z)
        have look : PySem.W.Looks (model X.prog X.w) k (typeOf (.ref e)) ec := fun A Q E s0 kk z => wpAny_typeOf_ref (kk _ _ he) (hz.1.symm ▸ z)
        have meet := PySem.W.exm_one (M := model X.prog X.w) J3.kIn look hy
        have named : ∀ {Q E : Value → Shared → Prop}, Q v { t with heap := k } → wpAny (model X.prog X.w) (X.A.mark (some (.ref e))) (eval (.Name x p) X.env) Q E { t with heap := k } := fun {Q E} z => by
          rcases hv with ⟨m1, m2, m3 | ⟨m3, m4, m5⟩⟩
          · exact L2.ld_glob (X := X.suite e ((e, o) :: (X.pn ++ pins))) S3 m1 m3 z m2
          · exact L2.ld_blt (X := X.suite e ((e, o) :: (X.pn ++ pins))) S3 m1 m3 m4 z m5 m2
        refine named (meet.here ?_)
        cases y with
        | false => exact ih (no rfl)
        | true =>
          refine codeAny_handlers_suite_as (HandSPX.lands_againZ fk fun k4 fk4 up4 => ?_)
          have J4 : Inv X pins σ1 H1 { t with heap := k4 } := J.landed nb fk4.1 (up2.trans up4) os ag
          obtain ⟨o4, fs4, he4, hz4, hd4⟩ := fk4.there
          refine L2.store_ok (X := X.suite e ((e, o4) :: (X.pn ++ pins))) (v := .ref e) (J4.suite he4 hd4 ne nL nF) nd hi (.inl hk) rfl (fun s5 S5 => ?_) (.inr hk)
          refine wpAny_mono ((hu e o4 ec ed (X.pn ++ pins) hz4 ⟨_, hd4⟩).run [] s5 _ H1 _ S5 (yes rfl e ne)) (fun f s6 z => ?_) (fun _ _ z => False.elim z)
          cases f with
          | ret u =>
            obtain ⟨v6, σ6, H6, S6, r6, q6⟩ := z
            exact L2.gone_ok (S6.unsuite okX) nd hi hk fun s7 J7 => ⟨_, _, _, J7, r6, q6⟩
          | next => obtain ⟨_, _, _, q6⟩ := z; exact q6.elim
          | brk => obtain ⟨_, _, _, q6⟩ := z; exact q6.elim
          | cont => obtain ⟨_, _, _, q6⟩ := z; exact q6.elim
    exact go cl w
  · cases f with
    | next => obtain ⟨σ1, H1, J1, z⟩ := q; exact wpAny_execs_nil ⟨σ1, H1, J1.ofTry okX, z⟩
    | brk => obtain ⟨σ1, H1, J1, z⟩ := q; exact ⟨σ1, H1, J1.ofTry okX, z⟩
    | cont => obtain ⟨σ1, H1, J1, z⟩ := q; exact ⟨σ1, H1, J1.ofTry okX, z⟩
    | ret u => obtain ⟨v, σ1, H1, J1, r1, z⟩ := q; exact ⟨v, σ1, H1, J1.ofTry okX, r1, z⟩
end
end Ev
/-! EvK4: try: return e / except X as n: return ('w', n.f) .. -/
namespace Ev
open PySem PySem.Spec PyProof.Rows
open L2 (V HO Hp Cx Inv PE PT PA PS PSs PG PGs PI PW PO PK PTs RelV Vals upd upd_same upd_ne SqL SqT TE TT TA TS TG TGs TI TO WX XK VK Room Takes EP FpOk Ends Zc Names Sky)
/-- what is asked of the classes that except clauses name -/
structure ClsF (Z : Zx) : Prop where
  nm : ∀ x c, Z.tx.cls.findIdx? (fun p => p.1 == x) = some c → Z.mg x = some (.ref (Z.ca c))
  ex : ∀ c c', c < Z.pg.cls.length → c' < Z.pg.cls.length → PySem.W.exmOne Z.K (.ref (Z.ca c)) (.ref (Z.ca c')) = some (isSub Z.pg.cls 20 c c')
  fl : ∀ (c c' : Nat) (p : Str × List Str) (f : Str) (i : Nat), isSub Z.pg.cls 20 c c' = true → Z.tx.cls[c']? = some p → p.2.findIdx? (· == f) = some i → ∃ par fds, Z.pg.cls[c]? = some (par, fds) ∧ fds[i]? = some f ∧ L2.XfC Z.K (Z.ca c) ∧ PySem.W.findIn Z.K (.ref (Z.ca c)) f = some none
  ln : Z.tx.cls.length = Z.pg.cls.length
section
variable {Z : Zx} {cs : List Nat} {W : WX} {X : Cx} {g g1 g2 : Gh} {H H1 H2 : Hp} {s s1 s2 s' : S} {en en' : Env} {d n : Nat} {C : Ctx} {cF : Nat → List D → S → R D} {cV : D → List D → S → R D} {D' : Ends}
/-- return ('w', n.f) in the suite -/
def tSu (Z : Zx) (j : Nat) (w f : Str) : Addr → Value → Option Addr → TS := fun e cl dd D σ H => ∃ c, cl = .ref (Z.ca c) ∧ L2.XfC Z.K (Z.ca c) ∧ PySem.W.findIn Z.K (.ref (Z.ca c)) f = some none ∧
  L2.tRet (L2.tTup (L2.tCons (L2.tC (.str w)) (L2.tCons (L2.tXf e cl dd (Z.ca c) f (L2.tVar j)) L2.tNil))) D σ H
theorem su_ok (G : Gd Z d C X) {y : Str} {j : Nat} {w f : Str} {e : Addr} {o : Obj} {cl : Value} {dd : Option Addr} {pn : List (Addr × Obj)} {k k2 : Nat} {p1 p2 p3 p4 p5 : Pos} (hz : Zc cl dd o) (hf : ∃ fs, o.data = .fields fs) (hi : X.N[j]? = some y) (hv : L2.Vis X.env.scope y) (h1 : (y == ("__debug__" : Str)) = false) (h2 : (y == ("__classdict__" : Str)) = false) :
    PSs (X.suite e ((e, o) :: pn)) [.Return (some (.Tuple [.Constant (.str w) k p1, .Attribute (.Name y p2) f p3] k2 p4)) p5] (tSu Z j w f e cl dd) := by
  refine ⟨fun pins s0 σ H D I hw => ?_⟩
  obtain ⟨c, hc, xf, hn, hw⟩ := hw
  have pv : PE (X.suite e ((e, o) :: pn)) (.Name y p2) (L2.tVar j) := L2.pe_var (X := X.suite e ((e, o) :: pn)) hi hv h1 h2
  have px : PE (X.suite e ((e, o) :: pn)) (.Attribute (.Name y p2) f p3) (L2.tXf e cl dd (Z.ca c) f (L2.tVar j)) := L2.pe_xf (by rw [G.K]; exact xf) (by rw [G.K]; exact hn) hz hf pv rfl
  have pr : PSs (X.suite e ((e, o) :: pn)) [.Return (some (.Tuple [.Constant (.str w) k p1, .Attribute (.Name y p2) f p3] k2 p4)) p5] (L2.tRet (L2.tTup (L2.tCons (L2.tC (.str w)) (L2.tCons (L2.tXf e cl dd (Z.ca c) f (L2.tVar j)) L2.tNil)))) :=
    L2.pss_one (L2.ps_ret (L2.pe_tup (L2.pa_cons L2.pe_str (L2.pa_cons px L2.pa_nil))))
  exact pr.run pins s0 σ H D I hw
/-- the clauses, translated -/
theorem cls_ok (cf : ClsF Z) (G : Gs Z d C X) : ∀ {hs : List ExceptHandler} {chs : List (Nat × Str × Nat)}, mapO (trH C) hs = some chs → ∃ l : List Cl, ClsR X hs l ∧
    ∀ (D' : Ends) (σ : L2.St) (g : Gh) (H : Hp) (s : S) (ce : List (Option Nat)) (c : Nat) (ws : List D) (s1 : S), σ.length = X.N.length → FinS Z C.cs X W D' g H s ce (evH Z.pg.cls chs c ws s1) → ∀ cl dx H1, ExK Z [] g H s c ws s1 cl dx H1 → wCl X.K W D' l cl dx σ H1 := by
  intro hs
  induction hs with
  | nil =>
    intro chs h
    unfold mapO at h
    cases h
    exact ⟨[], .nil, fun D' σ g H s ce c ws s1 hl q cl dx H1 x => q σ cl dx H1 (x.up fun c hc => absurd hc (by simp))⟩
  | cons h hs ih =>
    intro chs hm
    unfold mapO at hm
    cases h1 : trH C h with
    | none => simp only [h1] at hm; cases hm
    | some ch =>
      cases h2 : mapO (trH C) hs with
      | none => simp only [h1, h2] at hm; cases hm
      | some cr =>
        simp only [h1, h2] at hm
        cases hm
        obtain ⟨l, hl, hw⟩ := ih h2
        unfold trH at h1
        split at h1
        · rename_i x px y w k1 p1 z p2 f p3 k2 p4 p5 p6
          cases hb : (isGl C x && C.sc.names.lookup y == some .local && y == z && okNm y) with
          | false => rw [hb] at h1; cases h1
          | true =>
            rw [hb, cond_true] at h1
            simp only [Bool.and_eq_true, beq_iff_eq] at hb
            obtain ⟨⟨⟨hg, hk⟩, hyz⟩, hok⟩ := hb
            cases h3 : C.T.cls.findIdx? (fun p => p.1 == x) with
            | none => simp only [h3] at h1; cases h1
            | some c' =>
              simp only [h3] at h1
              cases h4 : C.T.cls[c']? with
              | none => simp only [h4] at h1; cases h1
              | some pq =>
                cases h5 : C.slotW y with
                | none => simp only [h4, h5] at h1; cases h1
                | some j =>
                  simp only [h4, h5] at h1
                  cases h6 : pq.2.findIdx? (· == f) with
                  | none => rw [h6] at h1; cases h1
                  | some i =>
                    rw [h6] at h1
                    cases h1
                    obtain ⟨j1, j2, j3⟩ := G.stores y j h5
                    rw [G.T] at h3 h4
                    have gl := gl_of G.toGd hg
                    have hkx : X.env.scope.names.lookup y = some .local := by rw [G.sc]; exact hk
                    have sl := slot_of G.toGd (x := y) (i := j) (by
                      have h5' := h5
                      unfold Ctx.slotW at h5'
                      unfold Ctx.slot
                      have v1 : vis (C.sc.names.lookup y) = true := by rw [hk] <;> rfl
                      have v2 : ((C.sc.names.lookup y == some .local) || (C.sc.names.lookup y == some .cell)) = true := by rw [hk] <;> rfl
                      rw [v2] at h5'
                      rw [v1, hok]
                      exact h5')
                    refine ⟨(.ref (Z.ca c'), j, tSu Z j w f) :: l, .cons ⟨gl.1, gl.2, .inl (by rw [G.mg]; exact cf.nm x c' h3)⟩ j1 hkx (fun e o cl d pn hz hf => by subst hyz; exact su_ok G.toGd hz hf j1 sl.2.1 sl.2.2.1 sl.2.2.2) hl, fun D' σ g H s ce c ws s1 hsl q cl dx H1 xk => ?_⟩
                    obtain ⟨rfl, g', a', r', dxa, fs, vs, fds, par, rfl, hxd, hreps, hcls, hfs⟩ := id xk
                    have lc : c < Z.pg.cls.length := (List.getElem?_eq_some_iff.mp hcls).1
                    have lc' : c' < Z.pg.cls.length := cf.ln ▸ (List.getElem?_eq_some_iff.mp h4).1
                    have q : FinS Z C.cs X W D' g H s ce (bif isSub Z.pg.cls 20 c c' then (ofO s1 (ws[i]?)).bind fun w' s => .ok (.rt (.tup [.str w, w'])) s else evH Z.pg.cls cr c ws s1) := q
                    refine ⟨isSub Z.pg.cls 20 c c', by rw [G.K]; exact cf.ex c c' lc lc', fun hy e he => ?_, fun hn => ?_⟩
                    · rw [hy] at q
                      obtain ⟨par2, fds2, k1, k2, k3, k4⟩ := cf.fl c c' pq f i hy h4 h6
                      cases hcls.symm.trans k1
                      cases hw' : ws[i]? with
                      | none => rw [hw'] at q; exact q.elim
                      | some u =>
                        rw [hw'] at q
                        have q : ∀ g' H' v, After g.lv g H s g' H' s1 → RelS Z g' H' s1 → Rep g'.φ H' (.tup [.str w, u]) v → D'.rt v H' := q
                        obtain ⟨v, hv, rv⟩ := hreps.get hw'
                        refine ⟨c, rfl, k3, k4, .ref e, List.getElem?_set_self (by rw [hsl]; exact (List.getElem?_eq_some_iff.mp j1).1), rfl, rfl, dxa, fs, v, rfl, hxd, hfs i f v k2 hv, by show 2 ≤ sizeLine; rw [sizeLine_eq]; decide, fun p hp => ?_⟩
                        refine q g' _ _ (a'.up0.trans (After.aside (ext_new hp))) (r'.aside (ext_new hp)) ?_
                        unfold Rep
                        exact ⟨p, [.str w, v], rfl, upd_same, reps_cons (by unfold Rep; rfl) (reps_cons (rv.mono ⟨[], (List.append_nil _).symm⟩ (fun a xs e => ext_new hp _ _ e)) reps_nil)⟩
                    · rw [hn] at q
                      exact hw D' σ g H s ce c ws s1 hsl q _ _ H1 xk
        · cases h1
theorem st_met (cf : ClsF Z) (ih : IHE Z d cF cV n) (G : Gs Z d C X) (tk : Takes X W) {e : Expr} {p : Pos} {h : ExceptHandler} {hs : List ExceptHandler} {q : Pos} {ce : E} {chs : List (Nat × Str × Nat)} (h1 : trE n C e = some ce) (h2 : mapO (trH C) (h :: hs) = some chs) :
    PS X (.Try [.Return (some e) p] (h :: hs) [] [] q) (tSv Z C.cs X W (evS cF cV Z.pg.cls (.met ce chs))) := by
  obtain ⟨l, hl, hw⟩ := cls_ok (W := W) cf G h2
  have nd : X.N.Nodup := by rw [G.N]; exact G.nd
  refine ps_imp (ps_tryA G.stk G.frm nd tk (tb := fun W' => L2.tRet (tEv Z C.cs X W' (evE cF cV ce))) (fun W' pn xe tk' po => ?_) hl) fun D' σ H ⟨g, en, s, r, e0, w, q⟩ => ?_
  · have G' : Gd Z d C (X.tr pn xe) := ⟨G.P, G.w, G.K, G.mg, G.base, G.T, G.N, G.nd, G.sc, G.calm, G.room, G.cf, G.lam⟩
    refine pss_imp (L2.pss_one (L2.ps_ret (ih.pe C (X.tr pn xe) W' G' tk' e ce h1).1)) fun D' σ H ⟨g, en, s, r, e0, q⟩ => ?_
    exact ⟨g, en, s, r, ⟨e0.len, e0.cen, e0.slot, e0.cell, e0.live⟩, q⟩
  · refine ⟨g, en, s, r, e0, ?_⟩
    have q : FinS Z C.cs X W D' g H s en.ce (match evE cF cV ce en s with
      | .ok w s => .ok (.rt w) s
      | .ex c vs s => evH Z.pg.cls chs c vs s
      | .bad => .bad) := q
    show Fin Z _ σ g H s (evE cF cV ce en s) _
    cases hr : evE cF cV ce en s with
    | bad => rw [hr] at q; exact q
    | ok x s1 =>
      rw [hr] at q
      exact fun g' H' a r' v hv => q g' H' v a.up0 r' hv
    | ex c ws s1 =>
      rw [hr] at q
      exact fun cl dx H' x => hw D' σ g H s en.ce c ws s1 w.1 q cl dx H' x
theorem ex_ok (co : ClsOk Z) (cf : ClsF Z) (hd : 0 < d) : ExOk Z d cF cV :=
  ⟨fun n ih C X W G tk x px e cp p i ces hg h1 h2 => st_rais co hd ih G tk hg h1 h2, fun n ih C X W G tk e p h hs q ce chs h1 h2 => st_met cf ih G tk h1 h2⟩
end
end Ev
/-! EvL: calls: the caller's cells are frozen at the entry, thawed at the exit. -/
namespace Ev
open PySem PySem.Spec PyProof.Rows
open L2 (V HO Hp Cx Inv PE PT PA PS PSs PG PGs PI PW PO PK PTs RelV Vals upd upd_same upd_ne SqL SqT TE TT TA TS TG TGs TI TO WX XK VK Room Takes EP FpOk Ends Un UB HOk ObjOk Env0)
section
variable {Z : Zx} {cs : List Nat} {W : WX} {X : Cx} {σ σ' : L2.St} {g g1 g2 g3 : Gh} {H H1 H2 H3 : Hp} {s s1 s2 s3 s4 s' : S} {en en' : Env} {α β : Type} {K : PySem.W.Frag} {d n : Nat} {C : Ctx} {P : Program} {w : World}
/-- the places of the live cells -/
def livA (g : Gh) : List Addr := g.lv.filterMap (g.ψ[·]?)
/-- at a call: what stands at as is frozen as it is in h, what stands at bs is let go -/
def entH (h : Heap) (as bs : List Addr) (H : Hp) : Hp := fun b => if b ∈ bs then none else if b ∈ as then (h.get? b).map fun o => .frz o (cellX b) else H b
/-- behind it -/
def extH (as bs : List Addr) (H H3 : Hp) : Hp := fun b => if b ∈ as then none else if b ∈ bs then H b else H3 b
/-- what is known of as, bs in the state h, H; fs: the frames' places -/
structure Tag (fs : List Addr) (base h : Heap) (H : Hp) (as bs : List Addr) : Prop where
  asN : ∀ a ∈ as, H a = none ∧ (∃ o v, h.get? a = some o ∧ o.data = .cell v) ∧ base.get? a = none ∧ a ∉ fs
  bsF : ∀ b ∈ bs, b ∈ as ∨ ∃ o, H b = some (.frz o (cellX b))
section
variable {fs as bs : List Addr} {base h : Heap}
theorem entH_bs {b : Addr} (hb : b ∈ bs) : entH h as bs H b = none := by unfold entH; rw [if_pos hb]
theorem entH_off {b : Addr} (h1 : b ∉ as) (h2 : b ∉ bs) : entH h as bs H b = H b := by unfold entH; rw [if_neg h2, if_neg h1]
theorem entH_as {b : Addr} {o : Obj} (h1 : b ∈ as) (h2 : b ∉ bs) (ho : h.get? b = some o) : entH h as bs H b = some (.frz o (cellX b)) := by unfold entH; rw [if_neg h2, if_pos h1, ho] <;> rfl
theorem extH_as {b : Addr} (h1 : b ∈ as) : extH as bs H H3 b = none := by unfold extH; rw [if_pos h1]
theorem extH_bs {b : Addr} (h1 : b ∉ as) (h2 : b ∈ bs) : extH as bs H H3 b = H b := by unfold extH; rw [if_neg h1, if_pos h2]
theorem extH_off {b : Addr} (h1 : b ∉ as) (h2 : b ∉ bs) : extH as bs H H3 b = H3 b := by unfold extH; rw [if_neg h1, if_neg h2]
/-- what stands in H and is no cell of ours stands at a place that is neither in as nor in bs -/
theorem Tag.off (t : Tag fs base h H as bs) {b : Addr} {u : HO} (e : H b = some u) (hu : ∀ o, u ≠ .frz o (cellX b)) : b ∉ as ∧ b ∉ bs := by
  have h1 : b ∉ as := fun hm => by rw [(t.asN b hm).1] at e; cases e
  refine ⟨h1, fun hm => ?_⟩
  rcases t.bsF b hm with z | ⟨o, z⟩
  · exact h1 z
  · rw [z] at e; cases e; exact hu o rfl
theorem Tag.keeps (t : Tag fs base h H as bs) {b : Addr} {u : HO} (e : H b = some u) (hu : ∀ o, u ≠ .frz o (cellX b)) : entH h as bs H b = some u := by
  obtain ⟨h1, h2⟩ := t.off e hu
  rw [entH_off h1 h2]; exact e
theorem cellX_ok {a : Addr} {o : Obj} (ho : h.get? a = some o) : ObjOk P w H h a (.frz o (cellX a)) := by
  refine ⟨ho, ?_⟩
  unfold cellX
  exact ⟨⟨o, ho⟩, ⟨o, ho⟩, fun h1 h2 ⟨u, e⟩ k => ⟨u, k u e⟩⟩
theorem Tag.hok (t : Tag fs base h H as bs) (hk : HOk P w H h) : HOk P w (entH h as bs H) h := fun b u e => by
  by_cases hb : b ∈ bs
  · rw [entH_bs hb] at e; cases e
  · by_cases ha : b ∈ as
    · obtain ⟨_, ⟨o, v, ho, _⟩, _⟩ := t.asN b ha
      rw [entH_as ha hb ho] at e
      cases e
      exact cellX_ok ho
    · rw [entH_off ha hb] at e
      exact (hk b u e).stay (fun c v _ q => q) (fun c q => t.keeps q fun o z => by cases z) fun c xs q => t.keeps q fun o z => by cases z
theorem Tag.env0 {A : Around} {outer : List PySem.Env} {sh : Shared} {mg : Str → Option Value} (t : Tag (L2.frs outer) base sh.heap H as bs) (e : Env0 P w K mg base A outer sh H) : Env0 P w K mg base A outer sh (entH sh.heap as bs H) := by
  refine ⟨e.frames, e.mod, fun b o q => ⟨(e.bs b o q).1, ?_⟩, e.bsz, e.funs, fun b hb => ?_, t.hok e.hok, e.bare⟩
  · by_cases hb : b ∈ bs
    · exact entH_bs hb
    · have ha : b ∉ as := fun hm => by rw [(t.asN b hm).2.2.1] at q; cases q
      rw [entH_off ha hb]; exact (e.bs b o q).2
  · by_cases hb' : b ∈ bs
    · exact entH_bs hb'
    · have ha : b ∉ as := fun hm => (t.asN b hm).2.2.2 hb
      rw [entH_off ha hb']; exact e.frf b hb
/-- what a call keeps, into the heap G -/
structure Kp (fs : List Addr) (H H' : Hp) (h G : Heap) : Prop where
  keep : ∀ b o, h.get? b = some o → H b = none → b ∉ fs → G.get? b = some o
  free : ∀ b o, h.get? b = some o → H b = none → H' b = none
  tups : ∀ b xs, H b = some (.tup xs) → H' b = some (.tup xs)
  frzs : ∀ b o xs, H b = some (.frz o xs) → H' b = some (.frz o xs)
  tbls : ∀ b ps, H b = some (.tbl ps) → ∃ more, H' b = some (.tbl (ps ++ more))
/-- what the exit needs of H3 -/
structure Ext (as bs : List Addr) (h : Heap) (H H3 : Hp) : Prop where
  fre : ∀ b ∈ bs, H3 b = none
  frz : ∀ a ∈ as, a ∉ bs → ∃ o, h.get? a = some o ∧ H3 a = some (.frz o (cellX a))
theorem Tag.ext (t : Tag fs base h H as bs) (hk : HOk P w H h) {G : Heap} (k : Kp fs (entH h as bs H) H3 h G) : Ext as bs h H H3 where
  fre := fun b hb => by
    have : ∃ o, h.get? b = some o := by
      rcases t.bsF b hb with z | ⟨o, z⟩
      · obtain ⟨_, ⟨o, v, ho, _⟩, _⟩ := t.asN b z
        exact ⟨o, ho⟩
      · exact ⟨o, (hk b _ z).1⟩
    obtain ⟨o, ho⟩ := this
    exact k.free b o ho (entH_bs hb)
  frz := fun a ha hb => by
    obtain ⟨_, ⟨o, v, ho, _⟩, _⟩ := t.asN a ha
    exact ⟨o, ho, k.frzs a o _ (entH_as ha hb ho)⟩
theorem Ext.keeps (x : Ext as bs h H H3) {b : Addr} {u : HO} (e : H3 b = some u) (hu : ∀ o, u ≠ .frz o (cellX b)) : extH as bs H H3 b = some u := by
  have h1 : b ∉ bs := fun hm => by rw [x.fre b hm] at e; cases e
  have h2 : b ∉ as := fun hm => by
    obtain ⟨o, _, q⟩ := x.frz b hm h1
    rw [q] at e; cases e; exact hu o rfl
  rw [extH_off h2 h1]; exact e
theorem Tag.exit (t : Tag fs base h H as bs) (hk : HOk P w H h) (hfs : ∀ b ∈ fs, H b = none) {G : Heap} (k : Kp fs (entH h as bs H) H3 h G) (hk3 : HOk P w H3 G) : Kp fs H (extH as bs H H3) h G ∧ HOk P w (extH as bs H H3) G := by
  have x := t.ext hk k
  have nofs : ∀ b ∈ bs, b ∉ fs := fun b hb hm => by
    rcases t.bsF b hb with z | ⟨o, z⟩
    · exact (t.asN b z).2.2.2 hm
    · rw [hfs b hm] at z; cases z
  refine ⟨⟨fun b o ho hn hb => ?_, fun b o ho hn => ?_, fun b xs q => ?_, fun b o xs q => ?_, fun b ps q => ?_⟩, fun b u q => ?_⟩
  · by_cases h1 : b ∈ bs
    · exact k.keep b o ho (entH_bs h1) hb
    · by_cases h2 : b ∈ as
      · obtain ⟨o', ho', q⟩ := x.frz b h2 h1
        rw [ho] at ho'; cases ho'
        exact (hk3 b _ q).1
      · exact k.keep b o ho (by rw [entH_off h2 h1]; exact hn) hb
  · by_cases h2 : b ∈ as
    · exact extH_as h2
    · by_cases h1 : b ∈ bs
      · rw [extH_bs h2 h1]; exact hn
      · rw [extH_off h2 h1]
        exact k.free b o ho (by rw [entH_off h2 h1]; exact hn)
  · exact x.keeps (k.tups b xs (t.keeps q fun o z => by cases z)) fun o z => by cases z
  · by_cases h2 : b ∈ as
    · rw [(t.asN b h2).1] at q; cases q
    · by_cases h1 : b ∈ bs
      · rw [extH_bs h2 h1]; exact q
      · rw [extH_off h2 h1]
        exact k.frzs b o xs (by rw [entH_off h2 h1]; exact q)
  · obtain ⟨more, z⟩ := k.tbls b ps (t.keeps q fun o z => by cases z)
    exact ⟨more, x.keeps z fun o z => by cases z⟩
  · by_cases h2 : b ∈ as
    · rw [extH_as h2] at q; cases q
    · by_cases h1 : b ∈ bs
      · rw [extH_bs h2 h1] at q
        rcases t.bsF b h1 with z | ⟨o, z⟩
        · exact absurd z h2
        · rw [z] at q
          cases q
          exact cellX_ok (k.keep b o (hk b _ z).1 (entH_bs h1) (nofs b h1))
      · rw [extH_off h2 h1] at q
        exact (hk3 b u q).stay (fun c v _ z => z) (fun c z => x.keeps z fun o z => by cases z) fun c xs z => x.keeps z fun o z => by cases z
theorem kp_un {h h' : Heap} (u : Un fs [] H H3 h h') : Kp fs H H3 h h' := ⟨fun b o q n hb => u.keep b o q n hb (by simp), fun b o q n => u.free b o q n (by simp), u.tups, u.frzs, u.tbls⟩
theorem kp_ub {h B h' : Heap} (u : UB fs H H3 h B h') : Kp fs H H3 h B := ⟨u.keep, u.free, u.tups, u.frzs, u.tbls⟩
theorem Tag.un (t : Tag fs base h H as bs) (hk : HOk P w H h) (hfs : ∀ b ∈ fs, H b = none) {h' : Heap} (u : Un fs [] (entH h as bs H) H3 h h') (hk3 : HOk P w H3 h') : Un fs [] H (extH as bs H H3) h h' ∧ HOk P w (extH as bs H H3) h' := by
  obtain ⟨k, z⟩ := t.exit hk hfs (kp_un u) hk3
  refine ⟨⟨fun b o q n hb _ => k.keep b o q n hb, fun b o q n hb hx => ?_, fun b o q n _ => k.free b o q n, u.there, k.tups, k.frzs, k.tbls⟩, z⟩
  refine u.slot b o q ?_ hb hx
  by_cases h1 : b ∈ bs
  · exact entH_bs h1
  · have h2 : b ∉ as := fun hm => (t.asN b hm).2.2.2 hb
    rw [entH_off h2 h1]; exact n
theorem Tag.ub (t : Tag fs base h H as bs) (hk : HOk P w H h) (hfs : ∀ b ∈ fs, H b = none) {B h' : Heap} (u : UB fs (entH h as bs H) H3 h B h') (hk3 : HOk P w H3 B) : UB fs H (extH as bs H H3) h B h' ∧ HOk P w (extH as bs H H3) B := by
  obtain ⟨k, z⟩ := t.exit hk hfs (kp_ub u) hk3
  exact ⟨⟨k.keep, u.slot, k.free, u.there, k.tups, k.frzs, k.tbls⟩, z⟩
/-- behind a call, an error in flight -/
theorem Tag.cx {outer : List PySem.Env} {sh : Shared} {u : Value} {s' : Shared} {E E' : XK} (t : Tag (L2.frs outer) base sh.heap H as bs) (e : Env0 P w K mg base A outer sh H) (c : L2.CX P w outer (entH sh.heap as bs H) sh E u s')
    (hE : ∀ cls d H3, Ext as bs sh.heap H H3 → E cls d H3 → E' cls d (extH as bs H H3)) : L2.CX P w outer H sh E' u s' := by
  obtain ⟨a, B, H', cls, dd, rfl, fl, hok, ub, na, os, ag, hh⟩ := c
  obtain ⟨u1, u2⟩ := t.ub e.hok e.frf ub hok
  refine ⟨a, B, _, cls, dd, rfl, fl, u2, u1, ?_, os, ag, hE cls dd H' (t.ext e.hok (kp_ub ub)) hh⟩
  -- the error's own object is new
  by_cases h2 : a ∈ as
  · exact extH_as h2
  · by_cases h1 : a ∈ bs
    · exfalso
      obtain ⟨o, ho, hn⟩ : ∃ o, sh.heap.get? a = some o ∧ a ∉ L2.frs outer := by
        rcases t.bsF a h1 with z | ⟨o, z⟩
        · exact absurd z h2
        · refine ⟨o, (e.hok a _ z).1, fun hm => ?_⟩
          rw [e.frf a hm] at z; cases z
      have := ub.keep a o ho (entH_bs h1) hn
      rw [fl.2.1] at this; cases this
    · rw [extH_off h2 h1]; exact na
end

/-! ### the states' relation -/
/-- an object's description leans on its own object, the tuples, what is known by a property -/
theorem objR_keeps {a : Addr} {o : O} (h : ObjR Z g H a o) (hφ : ∃ l, g1.φ = g.φ ++ l) (hψ : ∃ l, g1.ψ = g.ψ ++ l) (hf : ∀ b u, H b = some u → (∀ o, u ≠ .frz o (cellX b)) → Fix u ∨ b = a → H1 b = some u) : ObjR Z g1 H1 a o := by
  have ht : ∀ b xs, H b = some (.tup xs) → H1 b = some (.tup xs) := fun b xs e => hf b _ e (fun o z => by cases z) (.inl trivial)
  cases o with
  | lst xs =>
    obtain ⟨vs, h1, h2⟩ := h
    exact ⟨vs, hf _ _ h1 (fun o z => by cases z) (.inr rfl), Reps.mono hφ ht _ _ h2⟩
  | fro xs =>
    obtain ⟨ob, vs, h1, h2⟩ := h
    exact ⟨ob, vs, hf _ _ h1 (fun o z => by unfold cellX at z; cases z) (.inr rfl), Reps.mono hφ ht _ _ h2⟩
  | dct kvs =>
    obtain ⟨kus, h1, h2⟩ := h
    exact ⟨kus, hf _ _ h1 (fun o z => by cases z) (.inr rfl), paired_imp h2 fun p q r => ⟨r.1, Rep.mono hφ ht _ _ r.2⟩⟩
  | clo np nf ns body cs =>
    obtain ⟨q, params, bd, scope, cl, pm, c', ctv, N, fr, n, h1, h2, h3, h4, h5, h6, h7, h8, h9, h10, h11⟩ := h
    exact ⟨q, params, bd, scope, cl, pm, c', ctv, N, fr, n, hf _ _ h1 (fun o z => by unfold FunO at z; cases z) (.inr rfl), hf _ _ h2 (fun o z => by unfold LamX.CodeO at z; cases z) (.inl trivial), h3, h4, h5, h6, h7, h8, fun i x c e1 e2 => by
      obtain ⟨b, e3, e4⟩ := h9 i x c e1 e2
      exact ⟨b, e3, pre_get hψ e4⟩, h10, h11⟩
theorem objR_at {a : Addr} {o : O} (h : ObjR Z g H a o) : ∃ u, H a = some u ∧ ∀ o, u ≠ .frz o (cellX a) := by
  cases o with
  | lst xs => obtain ⟨vs, h1, h2⟩ := h; exact ⟨_, h1, fun o z => by cases z⟩
  | fro xs => obtain ⟨ob, vs, h1, h2⟩ := h; exact ⟨_, h1, fun o z => by unfold cellX at z; cases z⟩
  | dct kvs => obtain ⟨kus, h1, h2⟩ := h; exact ⟨_, h1, fun o z => by cases z⟩
  | clo np nf ns body cs =>
    obtain ⟨q, params, bd, scope, cl, pm, c', ctv, N, fr, n, h1, _⟩ := h
    exact ⟨_, h1, fun o z => by unfold FunO at z; cases z⟩
theorem tabs_keeps {T : List (Addr × Str)} (t : LamX.Tabs T H) (hf : ∀ b u, H b = some u → (∀ o, u ≠ .frz o (cellX b)) → H1 b = some u) : LamX.Tabs T H1 := fun p hp => by
  obtain ⟨ps, h1, h2, h3⟩ := t p hp
  refine ⟨ps, hf _ _ h1 (fun o z => by cases z), h2, fun pos cv hc => ?_⟩
  obtain ⟨c, e1, e2⟩ := h3 pos cv hc
  exact ⟨c, e1, hf _ _ e2 fun o z => by unfold LamX.CodeO at z; cases z⟩
/-- the abstract heap is told anew, the live cells are others -/
theorem RelS.retag (r : RelS Z g H s) {lv : List Nat} (hf : ∀ b u, H b = some u → (∀ o, u ≠ .frz o (cellX b)) → H1 b = some u) (hc : ∀ (c : Nat) (a : Addr) (ow : Option D), g.ψ[c]? = some a → s.c.get c = some ow → c ∉ lv → CellK g.φ H1 a ow)
    (hi : ∀ (c c' : Nat) (a : Addr) (ow ow' : Option D), g.ψ[c]? = some a → g.ψ[c']? = some a → s.c.get c = some ow → s.c.get c' = some ow' → c ∉ lv → c' ∉ lv → c = c') : RelS Z { g with lv := lv } H1 s where
  n := r.n
  m := r.m
  inj := r.inj
  obj := fun k a e => by
    obtain ⟨o, h1, h2⟩ := r.obj k a e
    exact ⟨o, h1, objR_keeps h2 ⟨[], by simp⟩ ⟨[], by simp⟩ fun b u q n _ => hf b u q n⟩
  hi := r.hi
  cel := hc
  chi := r.chi
  cin := hi
  tab := tabs_keeps r.tab hf
/-- a live cell in the state -/
theorem live_cell {pins : List (Addr × Obj)} {s0 : Shared} (I : Inv X pins σ H s0) (G : Gd Z d C X) (e : RelE cs X g H σ en s) {c : Nat} {a : Addr} (hc : c ∈ g.lv) (ha : g.ψ[c]? = some a) :
    H a = none ∧ (∃ o ov, s0.heap.get? a = some o ∧ o.data = .cell ov ∧ ∀ ow, s.c.get c = some ow → ∀ w, ow = some w → ∃ u v, ov = some u ∧ RelV v u ∧ Rep g.φ H w v) ∧ X.base.get? a = none ∧ a ∉ L2.frs X.stack ∧ (∃ ow, s.c.get c = some ow) ∧ ∃ (i : Nat) (x : Str), en.ce[i]? = some (some c) ∧ X.N[i]? = some x ∧ X.env.cells.lookup x = some a := by
  obtain ⟨i, hi⟩ := e.live c hc
  obtain ⟨x, a', h1, h2, h3, h4, h5, h6, h7⟩ := e.cell i c hi
  rw [ha] at h3
  cases h3
  obtain ⟨b1, b2⟩ := G.cf x a h2
  refine ⟨I.freeC x a h2, ?_, b1, b2, ⟨_, h4⟩, i, x, hi, h1, h2⟩
  obtain ⟨ov, o, ho, hd⟩ := I.cell x a h2
  refine ⟨o, ov, ho, hd, fun ow hw w e0 => ?_⟩
  rw [h4] at hw
  have hw := Option.some.inj hw
  rw [e0] at hw
  obtain ⟨v, k1, k2⟩ := e.slot i w (join_some hw)
  obtain ⟨m, _, hl⟩ := I.loc
  have hv : L2.Vis X.env.scope x := h7.elim (fun z => .inr (.inl z)) fun z => .inr (.inr z)
  obtain ⟨u, r1, q⟩ := hl i x v h1 k1 hv
  rcases q with ⟨k, _⟩ | ⟨_, c2, k3, k4⟩
  · have k : X.env.scope.names.lookup x = some .local := k
    rcases h7 with z | z <;> rw [z] at k <;> cases k
  · rw [h2] at k3
    cases k3
    obtain ⟨o2, ho2, hd2⟩ := k4
    rw [ho] at ho2
    cases ho2
    rw [hd] at hd2
    cases hd2
    exact ⟨u, v, rfl, r1, k2⟩
theorem live_inj {pins : List (Addr × Obj)} {s0 : Shared} (I : Inv X pins σ H s0) (G : Gd Z d C X) (e : RelE cs X g H σ en s) {c c' : Nat} {a : Addr} (hc : c ∈ g.lv) (hc' : c' ∈ g.lv) (ha : g.ψ[c]? = some a) (ha' : g.ψ[c']? = some a) : c = c' := by
  obtain ⟨_, _, _, _, _, i, x, h1, h2, h3⟩ := live_cell I G e hc ha
  obtain ⟨_, _, _, _, _, j, y, k1, k2, k3⟩ := live_cell I G e hc' ha'
  have := I.ok.inj x y a h3 k3
  subst this
  have nd : X.N.Nodup := by rw [G.N]; exact G.nd
  have := L2.nodup_ix nd h2 k2
  subst this
  rw [h1] at k1
  cases k1
  rfl
theorem mem_livA {a : Addr} : a ∈ livA g ↔ ∃ c ∈ g.lv, g.ψ[c]? = some a := by
  unfold livA
  rw [List.mem_filterMap]
/-- the tag of a call: ks the captured cells (they are full) -/
theorem tag_of {pins : List (Addr × Obj)} {s0 : Shared} (I : Inv X pins σ H s0) (G : Gd Z d C X) (r : RelS Z g H s) (e : RelE cs X g H σ en s) (ks : List Nat) (hk : ∀ c ∈ ks, ∃ ow, s.c.get c = some ow) :
    Tag (L2.frs X.stack) X.base s0.heap H (livA g) (ks.filterMap (g.ψ[·]?)) where
  asN := fun a ha => by
    obtain ⟨c, hc, hca⟩ := mem_livA.mp ha
    obtain ⟨h1, ⟨o, ov, h2, h3, _⟩, h4, h5, _⟩ := live_cell I G e hc hca
    exact ⟨h1, ⟨o, ov, h2, h3⟩, h4, h5⟩
  bsF := fun b hb => by
    obtain ⟨c, hc, hcb⟩ := List.mem_filterMap.mp hb
    by_cases hl : c ∈ g.lv
    · exact .inl (mem_livA.mpr ⟨c, hl, hcb⟩)
    · obtain ⟨ow, h⟩ := hk c hc
      obtain ⟨o, ov, h1, _⟩ := r.cel c b ow hcb h hl
      exact .inr ⟨o, h1⟩
/-- at the entry -/
theorem rel_entry {pins : List (Addr × Obj)} {s0 : Shared} (I : Inv X pins σ H s0) (G : Gd Z d C X) (r : RelS Z g H s) (e : RelE cs X g H σ en s) (ks : List Nat) (hk : ∀ c ∈ ks, ∃ ow, s.c.get c = some ow) :
    RelS Z { g with lv := ks } (entH s0.heap (livA g) (ks.filterMap (g.ψ[·]?)) H) s := by
  have t := tag_of I G r e ks hk
  -- two full cells of one place are one
  have inj : ∀ (c c' : Nat) (a : Addr) (ow ow' : Option D), g.ψ[c]? = some a → g.ψ[c']? = some a → s.c.get c = some ow → s.c.get c' = some ow' → c = c' := fun c c' a ow ow' h1 h2 h3 h4 => by
    by_cases hl : c ∈ g.lv
    · by_cases hl' : c' ∈ g.lv
      · exact live_inj I G e hl hl' h1 h2
      · obtain ⟨o, _, q, _⟩ := r.cel c' a ow' h2 h4 hl'
        rw [(live_cell I G e hl h1).1] at q; cases q
    · by_cases hl' : c' ∈ g.lv
      · obtain ⟨o, _, q, _⟩ := r.cel c a ow h1 h3 hl
        rw [(live_cell I G e hl' h2).1] at q; cases q
      · exact r.cin c c' a ow ow' h1 h2 h3 h4 hl hl'
  have ht : ∀ b xs, H b = some (.tup xs) → entH s0.heap (livA g) (ks.filterMap (g.ψ[·]?)) H b = some (.tup xs) := fun b xs q => t.keeps q fun o z => by cases z
  refine r.retag (fun b u q n => t.keeps q n) (fun c a ow h1 h2 h3 => ?_) fun c c' a ow ow' h1 h2 h3 h4 _ _ => inj c c' a ow ow' h1 h2 h3 h4
  have nb : a ∉ ks.filterMap (g.ψ[·]?) := fun hm => by
    obtain ⟨c', hc', q⟩ := List.mem_filterMap.mp hm
    obtain ⟨ow', h4⟩ := hk c' hc'
    have := inj c c' a ow ow' h1 q h2 h4
    subst this
    exact h3 hc'
  by_cases hl : c ∈ g.lv
  · obtain ⟨_, ⟨o, ov, h4, h5, h6⟩, _⟩ := live_cell I G e hl h1
    refine ⟨o, ov, entH_as (mem_livA.mpr ⟨c, hl, h1⟩) nb h4, h5, fun w hw => ?_⟩
    obtain ⟨u, v, i1, i2, i3⟩ := h6 ow h2 w hw
    exact ⟨u, v, i1, i2, Rep.mono ⟨[], by simp⟩ ht _ _ i3⟩
  · obtain ⟨o, ov, h4, h5, h6⟩ := r.cel c a ow h1 h2 hl
    have na : a ∉ livA g := fun hm => by rw [(t.asN a hm).1] at h4; cases h4
    refine ⟨o, ov, by rw [entH_off na nb]; exact h4, h5, fun w hw => ?_⟩
    obtain ⟨u, v, i1, i2, i3⟩ := h6 w hw
    exact ⟨u, v, i1, i2, Rep.mono ⟨[], by simp⟩ ht _ _ i3⟩
/-- at the exit. s4: s3 but for the cells; a cell that is full there was one of the callee's frozen ones, or a captured one -/
theorem rel_exit {pins : List (Addr × Obj)} {s0 : Shared} (I : Inv X pins σ H s0) (G : Gd Z d C X) (r : RelS Z g H s) (e : RelE cs X g H σ en s) {ks : List Nat} (hk : ∀ c ∈ ks, ∃ ow, s.c.get c = some ow)
    {L : List Nat} {own : List Addr} {s2 : S} (a3 : After L g2 (entH s0.heap (livA g) (ks.filterMap (g.ψ[·]?)) H) s2 g3 H3 s3) (r3 : RelS Z g3 H3 s3) (x : Ext (livA g) (ks.filterMap (g.ψ[·]?)) s0.heap H H3) (hφ : g2.φ = g.φ) (hψ : g2.ψ = g.ψ ++ own)
    (hm : s.m ≤ s2.m) (hL : ∀ c ∈ L, s.m ≤ c) (h2c : ∀ c, c < s.m → s2.c.get c = s.c.get c) (hn4 : s4.n = s3.n) (hh4 : s4.h = s3.h) (hm4 : s4.m = s3.m)
    (hc4 : ∀ c ow, s4.c.get c = some ow → s3.c.get c = some ow ∧ (c ∈ g3.lv → c ∈ ks)) (hc4' : ∀ c, c < s.m → s4.c.get c = s3.c.get c) :
    After [] g H s { g3 with lv := g.lv } (extH (livA g) (ks.filterMap (g.ψ[·]?)) H H3) s4 ∧ RelS Z { g3 with lv := g.lv } (extH (livA g) (ks.filterMap (g.ψ[·]?)) H H3) s4 := by
  have t := tag_of I G r e ks hk
  have old : ∀ c, c < s.m → s4.c.get c = s.c.get c := fun c hc => by
    rw [hc4' c hc, a3.cp c (by omega) fun z => absurd (hL c z) (by omega), h2c c hc]
  have hψ3 : ∃ l, g3.ψ = g.ψ ++ l := by
    obtain ⟨l, hl⟩ := a3.ψ
    exact ⟨own ++ l, by rw [hl, hψ, List.append_assoc]⟩
  have hφ3 : ∃ l, g3.φ = g.φ ++ l := by
    obtain ⟨l, hl⟩ := a3.φ
    exact ⟨l, by rw [hl, hφ]⟩
  have keep : ∀ b u, H b = some u → Fix u → extH (livA g) (ks.filterMap (g.ψ[·]?)) H H3 b = some u := fun b u q f => by
    have h1 : b ∉ livA g := fun hm => by rw [(t.asN b hm).1] at q; cases q
    by_cases h2 : b ∈ ks.filterMap (g.ψ[·]?)
    · rw [extH_bs h1 h2]; exact q
    · rw [extH_off h1 h2]
      exact a3.fix b u (by rw [entH_off h1 h2]; exact q) f
  refine ⟨⟨hφ3, hψ3, rfl, keep, fun b u q n nt => ?_, fun b q => ?_, fun b hb => ?_, by rw [hm4]; exact Nat.le_trans hm a3.m, fun c hc _ => old c hc⟩, ⟨by rw [hn4]; exact r3.n, by rw [hm4]; exact r3.m, r3.inj, fun k b q => ?_, fun k o q => by rw [hn4]; exact r3.hi k o (by rw [← hh4]; exact q), fun c a ow h1 h2 h3 => ?_, fun c ow q => by rw [hm4]; exact r3.chi c ow (hc4 c ow q).1, fun c c' a ow ow' h1 h2 h3 h4 h5 h6 => ?_, tabs_keeps r3.tab fun b u q n => x.keeps q n⟩⟩
  · have h1 : b ∉ livA g := fun hm => by rw [(t.asN b hm).1] at q; cases q
    by_cases h2 : b ∈ ks.filterMap (g.ψ[·]?)
    · rw [extH_bs h1 h2]; exact q
    · rw [extH_off h1 h2]
      exact a3.oth b u (by rw [entH_off h1 h2]; exact q) (by rw [hφ]; exact n) nt
  · by_cases h1 : b ∈ livA g
    · exact (t.asN b h1).1
    · by_cases h2 : b ∈ ks.filterMap (g.ψ[·]?)
      · rw [extH_bs h1 h2] at q; exact q
      · rw [extH_off h1 h2] at q
        have := a3.dom b q
        rw [entH_off h1 h2] at this; exact this
  · rcases a3.new b hb with z | z
    · exact .inl (by rw [← hφ]; exact z)
    · refine .inr ?_
      by_cases h1 : b ∈ livA g
      · exact (t.asN b h1).1
      · by_cases h2 : b ∈ ks.filterMap (g.ψ[·]?)
        · exfalso
          obtain ⟨k, hk, hkb⟩ := List.getElem_of_mem hb
          obtain ⟨o, _, q⟩ := r3.obj k b (by rw [List.getElem?_eq_getElem hk, hkb])
          obtain ⟨u, q, _⟩ := objR_at q
          rw [x.fre b h2] at q; cases q
        · rw [entH_off h1 h2] at z; exact z
  · obtain ⟨o, h1, h2⟩ := r3.obj k b q
    exact ⟨o, by rw [hh4]; exact h1, objR_keeps h2 ⟨[], by simp⟩ ⟨[], by simp⟩ fun b u q n _ => x.keeps q n⟩
  · -- a cell that is full behind the call
    have h1 : g3.ψ[c]? = some a := h1
    have h3 : c ∉ g.lv := h3
    obtain ⟨h4, h5⟩ := hc4 c ow h2
    have ht3 : ∀ b xs, H3 b = some (.tup xs) → extH (livA g) (ks.filterMap (g.ψ[·]?)) H H3 b = some (.tup xs) := fun b xs q => x.keeps q fun o z => by cases z
    have atOld : c < s.m → g.ψ[c]? = some a := fun hc => by
      obtain ⟨l, hl⟩ := hψ3
      rw [hl, List.getElem?_append_left (by rw [r.m]; exact hc)] at h1
      exact h1
    by_cases hk' : c ∈ ks
    · obtain ⟨ow0, h6⟩ := hk c hk'
      have hlt := r.chi c ow0 h6
      have h7 : s.c.get c = some ow := by rw [← old c hlt]; exact h2
      exact (r.cel c a ow (atOld hlt) h7 h3).mono hφ3 keep
    · have nl : c ∉ g3.lv := fun z => hk' (h5 z)
      obtain ⟨o, ov, k1, k2, k3⟩ := r3.cel c a ow h1 h4 nl
      have nb : a ∉ ks.filterMap (g.ψ[·]?) := fun hm => by rw [x.fre a hm] at k1; cases k1
      have na : a ∉ livA g := fun hm => by
        obtain ⟨c0, hc0, q⟩ := mem_livA.mp hm
        obtain ⟨_, _, _, _, ⟨ow0, h6⟩, _⟩ := live_cell I G e hc0 q
        have hlt := r.chi c0 ow0 h6
        have n0 : c0 ∉ g3.lv := fun z => by
          -- a live cell of the callee that is a live one of the caller's is captured
          have : c0 ∈ ks := (hc4 c0 ow0 (by rw [old c0 hlt]; exact h6)).2 z
          exact nb (List.mem_filterMap.mpr ⟨c0, this, q⟩)
        have h7 : s3.c.get c0 = some ow0 := by rw [← hc4' c0 hlt, old c0 hlt]; exact h6
        have := r3.cin c c0 a ow ow0 h1 (pre_get hψ3 q) h4 h7 nl n0
        subst this
        exact h3 hc0
      refine ⟨o, ov, by rw [extH_off na nb]; exact k1, k2, fun w hw => ?_⟩
      obtain ⟨u, v, i1, i2, i3⟩ := k3 w hw
      exact ⟨u, v, i1, i2, Rep.mono ⟨[], by simp⟩ ht3 _ _ i3⟩
  · have h1 : g3.ψ[c]? = some a := h1
    have h2 : g3.ψ[c']? = some a := h2
    obtain ⟨k1, k2⟩ := hc4 c ow h3
    obtain ⟨k3, k4⟩ := hc4 c' ow' h4
    have atOld : ∀ c, g3.ψ[c]? = some a → c < s.m → g.ψ[c]? = some a := fun c h1 hc => by
      obtain ⟨l, hl⟩ := hψ3
      rw [hl, List.getElem?_append_left (by rw [r.m]; exact hc)] at h1
      exact h1
    have full : ∀ c, c ∈ ks → c < s.m := fun c hc => by
      obtain ⟨ow0, h6⟩ := hk c hc
      exact r.chi c ow0 h6
    by_cases i1 : c ∈ ks
    · have l1 := full c i1
      by_cases i2 : c' ∈ ks
      · have l2 := full c' i2
        exact r.cin c c' a ow ow' (atOld c h1 l1) (atOld c' h2 l2) (by rw [← old c l1]; exact h3) (by rw [← old c' l2]; exact h4) h5 h6
      · obtain ⟨o, _, q, _⟩ := r3.cel c' a ow' h2 k3 fun z => i2 (k4 z)
        rw [x.fre a (List.mem_filterMap.mpr ⟨c, i1, atOld c h1 l1⟩)] at q; cases q
    · by_cases i2 : c' ∈ ks
      · have l2 := full c' i2
        obtain ⟨o, _, q, _⟩ := r3.cel c a ow h1 k1 fun z => i1 (k2 z)
        rw [x.fre a (List.mem_filterMap.mpr ⟨c', i2, atOld c' h2 l2⟩)] at q; cases q
      · exact r3.cin c c' a ow ow' h1 h2 k1 k3 (fun z => i1 (k2 z)) fun z => i2 (k4 z)
end
end Ev
/-! EvL2: a def is called. -/
namespace Ev
open PySem PySem.Spec PyProof.Rows
open L2 (V HO Hp Cx Inv PE PT PA PS PSs PG PGs PI PW PO PK PTs RelV Vals upd upd_same upd_ne SqL SqT TE TT TA TS TG TGs TI TO WX XK VK Room Takes EP FpOk Ends Un UB HOk ObjOk Env0)
/-- what the tables say of the def f, which is translated to F -/
structure DefT (Z : Zx) (f : Nat) (F : Fn) : Prop where
  ex : ∃ (name qual x : Str) (params : Arguments) (body : List Stmt) (scope : Scope) (kV doc pm cdv ct oc : Value) (an od : Option Addr) (osl : Array (Option Value)) (N : List Str) (lams : List (Nat × Nat × List Str × List Str)) (cs : List Nat) (n : Nat),
    Z.K.lookup (Z.fa f) = some ⟨oc, od, .func (PySem.W.fnOf name qual params body scope .none kV doc pm an cdv ct), osl⟩ ∧ PySem.W.codeIn Z.K cdv qual = true ∧ L2.FnScope N (paramsOf params) scope ∧ plainArgs params = true ∧
    Z.tx.fns[f]? = some (x, paramsOf params) ∧ trSs n ⟨Z.tx, N, scope, lams, cs⟩ body = some F.body ∧ F.np = (paramsOf params).length ∧ F.ns = N.length ∧ F.cs = cellsOf ⟨Z.tx, N, scope, lams, cs⟩ scope ∧ F.cs.Nodup ∧ (∀ y ∈ scope.names, scope.names.lookup y.1 = some y.2) ∧
    (lams ≠ [] → ∃ c P, cdv = .ref c ∧ LamX.TabB Z.base Z.mg c P ∧ (P, (qual ++ ".<locals>." : Str) ++ "<lambda>") ∈ Z.T ∧ ∀ p ∈ Z.T, p.1 = P → p.2 = (qual ++ ".<locals>." : Str) ++ "<lambda>") ∧
    ∀ (k : Nat) (ks : List Str) (pm' : List Nat), (f, k, ks) ∈ Z.tx.kcs → permOf (paramsOf params) k ks = some pm' → ∀ us0 ws0 us : List Value, us0.length = k → ws0.length = ks.length → mapO (fun i => (us0 ++ ws0)[i]?) pm' = some us →
      bindArgs (PySem.W.fnOf name qual params body scope .none kV doc pm an cdv ct) ⟨us0, ks.zip ws0⟩ = pure ((paramsOf params).zip us)
section
variable {Z : Zx} {cs : List Nat} {W : WX} {X : Cx} {σ σ' : L2.St} {g g1 g2 g3 : Gh} {H H1 H2 H3 : Hp} {s s1 s2 s3 s4 s' : S} {en en' : Env} {α β : Type} {K : PySem.W.Frag} {d n : Nat} {C : Ctx} {P : Program} {w : World}
/-- the parameters that are cells -/
def fillC (ce : List (Option Nat)) (ws : List D) (is : List Nat) (c : Tr (Option D)) : Tr (Option D) := is.foldl (fun c i => match (ce[i]?).join, ws[i]? with
    | some a, some w => c.put a (some (some w))
    | _, _ => c) c
theorem fillC_off {ce : List (Option Nat)} {ws : List D} {j : Nat} : ∀ {is : List Nat} {c : Tr (Option D)}, (∀ i ∈ is, ce[i]? = some (some j) → ws[i]? = none) → (fillC ce ws is c).get j = c.get j
  | [], _, _ => rfl
  | i :: is, c, h => by
    show (fillC ce ws is _).get j = _
    rw [fillC_off fun i hi => h i (List.mem_cons_of_mem _ hi)]
    cases h1 : (ce[i]?).join with
    | none => simp only [h1]
    | some a =>
      cases h2 : ws[i]? with
      | none => simp only [h1, h2]
      | some w =>
        simp only [h1, h2]
        refine Tr.get_put_ne _ _ fun z => ?_
        rw [h i List.mem_cons_self (by rw [z]; exact join_some h1)] at h2
        cases h2
theorem fillC_at {ce : List (Option Nat)} {ws : List D} {j i : Nat} {w : D} (hce : ce[i]? = some (some j)) (hw : ws[i]? = some w) (hinj : ∀ i', ce[i']? = some (some j) → i' = i) : ∀ {is : List Nat} {c : Tr (Option D)}, i ∈ is → (fillC ce ws is c).get j = some (some w)
  | [], _, h => by simp at h
  | k :: is, c, h => by
    show (fillC ce ws is _).get j = _
    by_cases hm : i ∈ is
    · exact fillC_at hce hw hinj hm
    · have hk : k = i := by
        rcases List.mem_cons.mp h with z | z
        · exact z.symm
        · exact absurd z hm
      subst hk
      rw [fillC_off fun i' hi' q => absurd hi' (by rw [hinj i' q]; exact hm)]
      have h1 : (ce[k]?).join = some j := by rw [hce] <;> rfl
      simp only [h1, hw]
      exact Tr.get_put_same _ _ _
theorem start_get {N : List Str} {vs : List V} {i : Nat} {v : V} (h : vs[i]? = some v) : (L2.start N vs)[i]? = some (some v) := by
  unfold L2.start
  have hi := (List.getElem?_eq_some_iff.mp h).1
  rw [List.getElem?_append_left (by simpa using hi), List.getElem?_map, h] <;> rfl
theorem frame_get {ws : List D} {k i : Nat} {w : D} (h : (ws.map some ++ List.replicate k none)[i]? = some (some w)) : ws[i]? = some w := by
  by_cases hi : i < ws.length
  · rw [List.getElem?_append_left (by simpa using hi), List.getElem?_map] at h
    cases e : ws[i]? with
    | none => rw [e] at h; cases h
    | some x => rw [e] at h; cases h; rfl
  · rw [List.getElem?_append_right (by simpa using hi), List.getElem?_replicate] at h
    split at h <;> cases h
theorem frame_join {ws : List D} {k i : Nat} : ((ws.map some ++ List.replicate k none)[i]?).join = ws[i]? := by
  by_cases hi : i < ws.length
  · rw [List.getElem?_append_left (by simpa using hi), List.getElem?_map]
    cases e : ws[i]? <;> rfl
  · rw [List.getElem?_append_right (by simpa using hi), List.getElem?_replicate]
    have : ws[i]? = none := List.getElem?_eq_none_iff.mpr (by omega)
    rw [this]
    split <;> rfl
/-- a def's cells by name -/
theorem def_cl {T : Tx} {N ps : List Str} {scope : Scope} {lams : List (Nat × Nat × List Str × List Str)} {cs : List Nat} (S : L2.FnScope N ps scope) (m : Nat) : BlkCl ⟨T, N, scope, lams, cs⟩ X scope (cellsFrom m scope.names []) where
  own := fun x hx => by
    obtain ⟨c, hc⟩ := L2.cells_has (n := m) (acc := []) hx
    obtain ⟨c', h⟩ := L2.mem_lookup hc
    exact ⟨c', h⟩
  free := fun x a hx => absurd rfl (S.nofree _ (PySem.mem_of_lookup hx))
theorem cellsFrom_cell : ∀ {names : List (Str × NameKind)} {m : Nat} {acc : List (Str × Addr)} {x : Str} {c : Addr}, (x, c) ∈ cellsFrom m names acc → (x, c) ∈ acc ∨ (m ≤ c ∧ (x, NameKind.cell) ∈ names) := fun {names m acc x c} h => cellsFrom_new names m acc x c h
/-- the def's frame as it begins -/
theorem frame_rel {T : Tx} {N ps : List Str} {scope : Scope} {lams : List (Nat × Nat × List Str × List Str)} {cs : List Nat} {F : Fn} {ws : List D} {vs : List V} {m : Nat} {X' : Cx} (S : L2.FnScope N ps scope)
    (hkind : ∀ (i : Nat) (x : Str), N[i]? = some x → (x, NameKind.cell) ∈ scope.names → scope.names.lookup x = some .cell)
    (r : RelS Z g H s) (hlv : g.lv = []) (hv : Reps g.φ H ws vs) (hns : F.ns = N.length) (hcs : F.cs = cellsOf ⟨T, N, scope, lams, cs⟩ scope) (hnd : F.cs.Nodup) (hN : X'.N = N) (hsc : X'.env.scope = scope) (hcl : X'.env.cells = cellsFrom m scope.names []) (hlen : vs.length ≤ N.length) :
    RelS Z { φ := g.φ, ψ := g.ψ ++ placesOf ⟨T, N, scope, lams, cs⟩ scope (cellsFrom m scope.names []), lv := List.range' s.m F.cs.length } H (enter F ws s).2 ∧
    RelE cs X' { φ := g.φ, ψ := g.ψ ++ placesOf ⟨T, N, scope, lams, cs⟩ scope (cellsFrom m scope.names []), lv := List.range' s.m F.cs.length } H (L2.start N vs) (enter F ws s).1 (enter F ws s).2 ∧
    Wf X' (L2.start N vs) (enter F ws s).1 ∧ s.m ≤ (enter F ws s).2.m ∧ (∀ c, c < s.m → (enter F ws s).2.c.get c = s.c.get c) := by
  have hin : ∀ i ∈ F.cs, i < (List.replicate F.ns (none : Option Nat)).length := fun i hi => by
    rw [hcs] at hi
    obtain ⟨x, _, h2, _⟩ := cellsOf_is hi
    rw [List.length_replicate, hns]
    exact (List.getElem?_eq_some_iff.mp (findIdx_get h2)).1
  obtain ⟨n1, n2, n3, n4, n5, n6, n7⟩ := newCells_is F.cs (List.replicate F.ns none) s hnd hin
  obtain ⟨ce, hce⟩ : ∃ ce, ce = (newCells (List.replicate F.ns none) s F.cs).1 := ⟨_, rfl⟩
  obtain ⟨sn, hsn⟩ : ∃ sn, sn = (newCells (List.replicate F.ns none) s F.cs).2 := ⟨_, rfl⟩
  have hent : enter F ws s = (⟨ws.map some ++ List.replicate (F.ns - ws.length) none, ce⟩, { sn with c := fillC ce ws F.cs sn.c }) := by
    rw [hce, hsn] <;> rfl
  rw [hent]
  rw [← hce] at n1 n2 n3
  rw [← hsn] at n4 n5 n6 n7
  have lp : (placesOf ⟨T, N, scope, lams, cs⟩ scope (cellsFrom m scope.names [])).length = F.cs.length := by unfold placesOf; rw [List.length_map, hcs]
  have ceAt : ∀ (i c : Nat), ce[i]? = some (some c) → ∃ k, F.cs[k]? = some i ∧ c = s.m + k ∧ k < F.cs.length := fun i c h => by
    by_cases hi : i ∈ F.cs
    · obtain ⟨k, hk, hki⟩ := List.getElem_of_mem hi
      have hki : F.cs[k]? = some i := by rw [List.getElem?_eq_getElem hk, hki]
      rw [n3 k i hki] at h
      cases h
      exact ⟨k, hki, rfl, hk⟩
    · rw [n2 i hi, List.getElem?_replicate] at h
      split at h <;> cases h
  have ceInj : ∀ (i j c : Nat), ce[i]? = some (some c) → ce[j]? = some (some c) → i = j := fun i j c h1 h2 => by
    obtain ⟨k1, a1, a2, _⟩ := ceAt i c h1
    obtain ⟨k2, b1, b2, _⟩ := ceAt j c h2
    have : k1 = k2 := by omega
    subst this
    rw [a1] at b1
    cases b1; rfl
  have rM := r.more (as := placesOf ⟨T, N, scope, lams, cs⟩ scope (cellsFrom m scope.names [])) n4 n5 (by rw [lp]; exact n6) (fun c => by rw [lp]; exact n7 c)
  rw [hlv, lp, List.nil_append] at rM
  have fill : ∀ c ow, (fillC ce ws F.cs sn.c).get c = some ow → (s.m ≤ c ∧ c < s.m + F.cs.length) ∨ sn.c.get c = some ow := fun c ow h => by
    by_cases hc : s.m ≤ c ∧ c < s.m + F.cs.length
    · exact .inl hc
    · rw [fillC_off fun i hi q => ?_] at h
      · exact .inr h
      · obtain ⟨k, _, a2, a3⟩ := ceAt i c q
        omega
  have rF := rM.cells (s' := { sn with c := fillC ce ws F.cs sn.c }) rfl rfl rfl (fun c ow h => by
      rcases fill c ow h with z | z
      · exact .inl (by rw [List.mem_range'_1]; exact z)
      · exact .inr z) (fun c ow h => by
      rcases fill c ow h with z | z
      · show c < sn.m
        rw [n6]; exact z.2
      · exact rM.chi c ow z)
  refine ⟨rF, ⟨?_, ?_, fun i w hw => ?_, fun i c hc => ?_, fun c hc => ?_⟩, ⟨?_, fun i j c h1 h2 => ceInj i j c h1 h2⟩, ?_, fun c hc => ?_⟩
  · show (ws.map some ++ List.replicate (F.ns - ws.length) none).length = X'.N.length
    rw [List.length_append, List.length_map, List.length_replicate, hN, ← hns]
    have := hv.len
    omega
  · show ce.length = X'.N.length
    rw [n1, List.length_replicate, hN, hns]
  · have hw := frame_get hw
    obtain ⟨v, h1, h2⟩ := hv.get hw
    exact ⟨v, start_get h1, h2⟩
  · have hc : ce[i]? = some (some c) := hc
    obtain ⟨k, a1, a2, a3⟩ := ceAt i c hc
    obtain ⟨x, a, i1, i2, i3, i4, i5, i6⟩ := places_at (C := ⟨T, N, scope, lams, cs⟩) (def_cl (X := X') S m) (k := k) (i := i) (by rw [← hcs]; exact a1)
    refine ⟨x, a, by rw [hN]; exact i1, by rw [hcl]; exact i3, ?_, ?_, ?_, i5, .inl (by rw [hsc]; exact hkind i x i1 i2)⟩
    · show (g.ψ ++ _)[c]? = some a
      rw [List.getElem?_append_right (by rw [r.m]; omega), r.m, a2]
      have : s.m + k - s.m = k := by omega
      rw [this]; exact i4
    · show (fillC ce ws F.cs sn.c).get c = some (((ws.map some ++ List.replicate (F.ns - ws.length) none)[i]?).join)
      rw [frame_join]
      cases hw : ws[i]? with
      | none =>
        rw [fillC_off fun i' _ q => by rw [ceInj i' i c q hc]; exact hw, n7, if_pos (by omega)]
      | some w => exact fillC_at hc hw (fun i' q => ceInj i' i c q hc) (List.mem_of_getElem? a1)
    · show c ∈ List.range' s.m F.cs.length
      rw [List.mem_range'_1]; omega
  · have hc : c ∈ List.range' s.m F.cs.length := hc
    rw [List.mem_range'_1] at hc
    refine ⟨F.cs[c - s.m]'(by omega), ?_⟩
    show ce[_]? = _
    rw [n3 (c - s.m) _ (List.getElem?_eq_getElem (by omega))]
    have : s.m + (c - s.m) = c := by omega
    rw [this]
  · unfold L2.start
    rw [List.length_append, List.length_map, List.length_replicate, hN]
    omega
  · show s.m ≤ sn.m
    omega
  · show (fillC ce ws F.cs sn.c).get c = s.c.get c
    rw [fillC_off fun i _ q => ?_, n7, if_neg (by omega)]
    obtain ⟨k, _, a2, _⟩ := ceAt i c q
    omega
theorem dropCells_old : ∀ (is : List Nat) (ce : List (Option Nat)) (s : S) (c : Nat), (∀ i ∈ is, ∀ k, ce[i]? = some (some k) → k ≠ c) → (dropCells ce s is).c.get c = s.c.get c := fun is ce s c h => by
  obtain ⟨d1, d2, d3, d4, d5⟩ := dropCells_is is ce s
  exact d5 c fun ⟨j, hj, hjc⟩ => h j hj c hjc rfl
theorem FinS_of_leave {r : R Fl} {ce : List (Option Nat)} {Q' : V → Hp → Prop} (hnb : r.bind leave ≠ .bad)
    (hok : ∀ w s3 g3 H3 v, r.bind leave = .ok w s3 → After g.lv g H s g3 H3 s3 → RelS Z g3 H3 s3 → Rep g3.φ H3 w v → Q' v H3) (hex : ∀ c ws s3 σ' cls dx H3, r.bind leave = .ex c ws s3 → ExK Z g.lv g H s c ws s3 cls dx H3 → W cls dx σ' H3) :
    FinS Z cs X W { nx := fun _ H' => Q' .non H', rt := Q' } g H s ce r := by
  cases r with
  | bad => exact hnb rfl
  | ex c ws s3 => exact fun σ' cls dx H3 x => hex c ws s3 σ' cls dx H3 rfl x
  | ok f s3 =>
    cases f with
    | nx e => exact fun g3 H3 σ3 a r3 _ _ _ => hok .non s3 g3 H3 .non rfl a r3 Rep.non
    | rt w => exact fun g3 H3 v a r3 hv => hok w s3 g3 H3 v rfl a r3 hv
    | bk e => exact absurd rfl hnb
    | ct e => exact absurd rfl hnb
theorem callF_at {P : Pg} {f : Nat} {ws : List D} {F : Fn} (hF : P.fns[f]? = some F) (hl : ws.length = F.np) : callF P (n + 1) f ws s = ((evSs (callF P n) (callV P n) P.cls F.body (enter F ws s).1 (enter F ws s).2).bind leave).drop (enter F ws s).1.ce F.cs := by
  rw [callF]
  simp only [hF]
  rw [nbeq_t hl] <;> rfl
/-- a def called, one call deeper -/
theorem callP_succ (co : ClsOk Z) (ihs : ∀ m, IHS Z d (callF Z.pg n) (callV Z.pg n) m) (hT : ∀ f F, Z.pg.fns[f]? = some F → F.ns ≠ 0 → DefT Z f F) (hstub : ∀ f F, Z.pg.fns[f]? = some F → F.ns = 0 → F = ⟨0, 0, [], .cons .brk .nil⟩ ∨ DefT Z f F) : CallP Z (d + 1) (callF Z.pg (n + 1)) := by
  intro C X W G tk f q hq us0 ks ws0 us hus pins s0 σ H vs Q g en s ws I rv r e hv hfin
  cases hF : Z.pg.fns[f]? with
  | none =>
    exfalso
    rw [callF] at hfin
    simp only [hF] at hfin
    exact hfin
  | some F =>
    have hl : ws.length = F.np := by
      cases hb : Nat.beq ws.length F.np with
      | true => exact Nat.eq_of_beq_eq_true hb
      | false =>
        exfalso
        rw [callF] at hfin
        simp only [hF, hb] at hfin
        exact hfin
    rw [callF_at hF hl] at hfin
    have hT : DefT Z f F := by
      by_cases h0 : F.ns = 0
      · rcases hstub f F hF h0 with z | z
        · exfalso
          rw [z] at hfin
          simp only [evSs, evS, Ev.R.bind_ok, leave, R.drop] at hfin
          exact hfin
        · exact z
      · exact hT f F hF h0
    obtain ⟨name, qual, x, params, body, scope, kV, doc, pm, cdv, ct, oc, an, od, osl, N, lams, cs, m, lk, hcd, S, hpl, hfn, htr, hnp, hns, hcs, hnd, huq, hlam, hkw⟩ := hT.ex
    rw [hfn] at hq
    cases hq
    have hbind : bindArgs (PySem.W.fnOf name qual params body scope .none kV doc pm an cdv ct) ⟨us0, ks.zip ws0⟩ = pure ((paramsOf params).zip us) := by
      rcases hus with ⟨rfl, rfl, rfl⟩ | ⟨h1, h2, pm', h3, h4⟩
      · refine bind_plain hpl rfl (by rw [← S.pre]; exact S.nd.sublist (List.take_sublist _ _)) ?_
        rw [← rv.length, ← hv.len, hl, hnp]
      · exact hkw us0.length ks pm' h1 h3 us0 ws0 us rfl h2 h4
    have hvl : vs.length = (paramsOf params).length := by rw [← hv.len, hl, hnp]
    -- the entry
    have tg := tag_of I G r e [] (by simp)
    have rE := rel_entry I G r e [] (by simp)
    obtain ⟨H2, hH2⟩ : ∃ H2 : Hp, H2 = entH s0.heap (livA g) (([] : List Nat).filterMap (g.ψ[·]?)) H := ⟨_, rfl⟩
    have e0 : Env0 X.prog X.w X.K X.mg X.base X.A X.stack s0 H2 := by rw [hH2]; exact tg.env0 I.env0
    rw [← hH2] at rE
    have hvE : Reps g.φ H2 ws vs := Reps.mono ⟨[], by simp⟩ (fun b xs z => by rw [hH2]; exact tg.keeps z fun o z => by cases z) _ _ hv
    obtain ⟨r0, hr0⟩ : ∃ r0 : R Fl, r0 = evSs (callF Z.pg n) (callV Z.pg n) Z.pg.cls F.body (enter F ws s).1 (enter F ws s).2 := ⟨_, rfl⟩
    rw [← hr0] at hfin
    obtain ⟨g2, hg2⟩ : ∃ g2 : Gh, g2 = { φ := g.φ, ψ := g.ψ ++ placesOf ⟨Z.tx, N, scope, lams, cs⟩ scope (cellsFrom (s0.heap.objs.size + 1) scope.names []), lv := List.range' s.m F.cs.length } := ⟨_, rfl⟩
    have hpre : (paramsOf params).length ≤ N.length := by have := congrArg List.length S.pre; rw [List.length_take] at this; omega
    have hnb : r0.bind leave ≠ .bad := fun z => by rw [z] at hfin; exact hfin
    obtain ⟨E', hE'⟩ : ∃ E' : XK, E' = fun cls dx H3 => ∃ c ws' s3, r0.bind leave = .ex c ws' s3 ∧ ExK Z g2.lv g2 H2 (enter F ws s).2 c ws' s3 cls dx H3 := ⟨_, rfl⟩
    obtain ⟨Q', hQ'⟩ : ∃ Q' : VK, Q' = fun v H3 => ∃ w s3 g3, r0.bind leave = .ok w s3 ∧ After g2.lv g2 H2 (enter F ws s).2 g3 H3 s3 ∧ RelS Z g3 H3 s3 ∧ Rep g3.φ H3 w v := ⟨_, rfl⟩
    have hkind : ∀ (i : Nat) (x : Str), N[i]? = some x → (x, NameKind.cell) ∈ scope.names → scope.names.lookup x = some .cell := fun i x _ h => huq _ h
    have fr : ∀ X' : Cx, X'.N = N → X'.env.scope = scope → X'.env.cells = cellsFrom (s0.heap.objs.size + 1) scope.names [] → _ := fun X' a b c =>
      frame_rel (T := Z.tx) (N := N) (lams := lams) (cs := cs) (F := F) (ws := ws) (vs := vs) (X' := X') S hkind rE rfl hvE hns hcs hnd a b c (by omega)
    rw [← hg2] at fr
    have rc : codeAny (model X.prog X.w) X.A (.call (.ref (Z.fa f)) ⟨us0, ks.zip ws0⟩) (L2.CR (L2.CX X.prog X.w) X.stack X.prog X.w H2 s0 Q' E') s0 := by
      refine LamX.run_ofS (N := N) (ps := paramsOf params) (us := us) (vs := vs) (k := d) (by rw [G.K]; exact lk) (by rw [G.K]; exact hcd) S G.room e0 (BindsTo.of_eq hbind) rv hvl fun hr' => ?_
      have G' : Gs Z d ⟨Z.tx, N, scope, lams, cs⟩ (L2.cxOf (L2.CX X.prog X.w) X.prog X.w X.K X.mg X.base N qual scope (Z.fa f) cdv X.A X.stack s0 H2 E') := by
        refine { P := G.P, w := G.w, K := G.K, mg := G.mg, base := G.base, T := rfl, N := rfl, nd := S.nd, sc := rfl, calm := rfl, room := hr', cf := fun y c hy => ?_, lam := fun hn => ?_, fn := fun _ => rfl, own := L2.passes_of rfl, stk := rfl, frm := rfl }
        · have hy : (cellsFrom (s0.heap.objs.size + 1) scope.names []).lookup y = some c := hy
          have hc : s0.heap.objs.size + 1 ≤ c := by
            rcases cellsFrom_new _ _ _ _ _ (PySem.mem_of_lookup hy) with z | z
            · cases z
            · exact z.1
          refine ⟨?_, fun hb => ?_⟩
          · cases z : X.base.get? c with
            | none => exact z
            | some o => exact absurd (Heap.lt_size (I.bk c o z)) (Nat.not_lt.mpr (Nat.le_of_succ_le hc))
          · have hb : c ∈ L2.frs (PyProof.Rows.envOfC qual scope s0.heap.objs.size (Z.fa f) cdv :: X.stack) := hb
            unfold L2.frs at hb
            rw [List.filterMap_cons] at hb
            rcases List.mem_cons.mp hb with z | z
            · rw [z] at hc
              exact absurd hc (Nat.not_succ_le_self _)
            · obtain ⟨_, o, ho, _⟩ := I.stack.mem z
              exact absurd (Heap.lt_size ho) (Nat.not_lt.mpr (Nat.le_of_succ_le hc))
        · obtain ⟨c, P, h1, h2, h3, h4⟩ := hlam hn
          exact ⟨c, P, h1, by rw [show (L2.cxOf (L2.CX X.prog X.w) X.prog X.w X.K X.mg X.base N qual scope (Z.fa f) cdv X.A X.stack s0 H2 E').base = Z.base from G.base, show (L2.cxOf (L2.CX X.prog X.w) X.prog X.w X.K X.mg X.base N qual scope (Z.fa f) cdv X.A X.stack s0 H2 E').mg = Z.mg from G.mg]; exact h2, h3, h4⟩
      have tk' : L2.Takes (L2.cxOf (L2.CX X.prog X.w) X.prog X.w X.K X.mg X.base N qual scope (Z.fa f) cdv X.A X.stack s0 H2 E') (fun cls dx _ H => E' cls dx H) := L2.takes_of rfl rfl rfl rfl
      obtain ⟨k1, k2, k3, k4, k5⟩ := fr (L2.cxOf (L2.CX X.prog X.w) X.prog X.w X.K X.mg X.base N qual scope (Z.fa f) cdv X.A X.stack s0 H2 E') rfl rfl rfl
      refine ⟨_, (ihs m).pss _ _ _ G' tk' body F.body htr, g2, (enter F ws s).1, (enter F ws s).2, k1, k2, k3, ?_⟩
      rw [← hr0]
      refine FinS_of_leave hnb (fun w s3 g3 H3 v h1 h2 h3 h4 => ?_) fun c ws' s3 σ' cls dx H3 h1 h2 => ?_
      · rw [hQ']; exact ⟨w, s3, g3, h1, h2, h3, h4⟩
      · rw [hE']; exact ⟨c, ws', s3, h1, h2⟩
    obtain ⟨k1, k2, k3, k4, k5⟩ := fr (L2.cxOf (L2.CX X.prog X.w) X.prog X.w X.K X.mg X.base N qual scope (Z.fa f) cdv X.A X.stack s0 H2 E') rfl rfl rfl
    -- the cells of the frame
    have ceOf : ∀ i c, (enter F ws s).1.ce[i]? = some (some c) → s.m ≤ c := fun i c h => by
      obtain ⟨_, _, _, _, _, _, z, _⟩ := k2.cell i c h
      rw [hg2] at z
      have z : c ∈ List.range' s.m F.cs.length := z
      rw [List.mem_range'_1] at z
      exact z.1
    have exitOk : ∀ (g3 : Gh) (H3 : Hp) (s3 : Ev.S), After g2.lv g2 H2 (enter F ws s).2 g3 H3 s3 → RelS Z g3 H3 s3 → Ext (livA g) (([] : List Nat).filterMap (g.ψ[·]?)) s0.heap H H3 →
        After [] g H s { g3 with lv := g.lv } (extH (livA g) (([] : List Nat).filterMap (g.ψ[·]?)) H H3) (dropCells (enter F ws s).1.ce s3 F.cs) ∧ RelS Z { g3 with lv := g.lv } (extH (livA g) (([] : List Nat).filterMap (g.ψ[·]?)) H H3) (dropCells (enter F ws s).1.ce s3 F.cs) := fun g3 H3 s3 a3 r3 x => by
      obtain ⟨d1, d2, d3, d4, d5⟩ := dropCells_is F.cs (enter F ws s).1.ce s3
      refine rel_exit (ks := []) (g2 := g2) (L := g2.lv) I G r e (by simp) (own := placesOf ⟨Z.tx, N, scope, lams, cs⟩ scope (cellsFrom (s0.heap.objs.size + 1) scope.names [])) (s2 := (enter F ws s).2) (by rw [← hH2]; exact a3) r3 x (by rw [hg2]) (by rw [hg2]) k4 (fun c hc => ?_) k5 d1 d2 d3 (fun c ow h => ?_) fun c hc => ?_
      · rw [hg2] at hc
        have z : c ∈ List.range' s.m F.cs.length := hc
        rw [List.mem_range'_1] at z
        exact z.1
      · by_cases hc : ∃ j ∈ F.cs, (enter F ws s).1.ce[j]? = some (some c)
        · rw [d4 c hc] at h; cases h
        · rw [d5 c hc] at h
          refine ⟨h, fun hl3 => absurd ?_ hc⟩
          rw [a3.lv] at hl3
          obtain ⟨i, hi⟩ := k2.live c hl3
          obtain ⟨y, a, z1, z2, z3, z4, z5, z6, z7⟩ := k2.cell i c hi
          refine ⟨i, ?_, hi⟩
          by_cases hiF : i ∈ F.cs
          · exact hiF
          · exfalso
            have hin : ∀ i ∈ F.cs, i < (List.replicate F.ns (none : Option Nat)).length := fun i hi => by
              rw [hcs] at hi
              obtain ⟨x, _, h2, _⟩ := cellsOf_is hi
              rw [List.length_replicate, hns]
              exact (List.getElem?_eq_some_iff.mp (findIdx_get h2)).1
            obtain ⟨n1, n2, _⟩ := newCells_is F.cs (List.replicate F.ns none) s hnd hin
            have hi : (newCells (List.replicate F.ns none) s F.cs).1[i]? = some (some c) := hi
            rw [n2 i hiF, List.getElem?_replicate] at hi
            split at hi <;> cases hi
      · exact dropCells_old _ _ _ _ fun i _ k hk => by have := ceOf i k hk; omega
    refine wpAny_call (codeAny_mono rc fun rr s' hq => ?_)
    cases rr with
    | error er =>
      refine tk er s' (L2.XE.of_call (E := fun cls dx H4 => W cls dx σ H4) I (fun _ _ _ z => z) ?_)
      have hq : L2.CX X.prog X.w X.stack H2 s0 E' er s' := hq
      rw [hH2] at hq
      refine tg.cx I.env0 hq fun cls dx H3 x hE => ?_
      rw [hE'] at hE
      obtain ⟨c, ws', s3, h1, h2, g3, a3, r3, dxa, fs, vs', fds, par, h3, h4, h5, h6, h7⟩ := hE
      obtain ⟨a4, r4⟩ := exitOk g3 H3 s3 a3 r3 x
      rw [h1] at hfin
      have hfin : ∀ cls d H', ExK Z [] g H s c ws' (dropCells (enter F ws s).1.ce s3 F.cs) cls d H' → W cls d σ H' := hfin
      exact hfin cls dx _ ⟨h2, _, a4, r4, dxa, fs, vs', fds, par, h3, x.keeps h4 (fun o z => by cases z), Reps.mono ⟨[], by simp⟩ (fun b xs z => x.keeps z fun o z => by cases z) _ _ h5, h6, h7⟩
    | ok fl =>
      cases fl with
      | ret u =>
        have hq : L2.CE X.stack X.prog X.w H2 s0 Q' u s' := hq
        obtain ⟨v, H3, os, bare, un, hok, ru, hQ⟩ := hq
        rw [hQ'] at hQ
        obtain ⟨w, s3, g3, h1, a3, r3, hw⟩ := hQ
        rw [hH2] at un
        obtain ⟨un4, hok4⟩ := tg.un I.hok I.stkFree un hok
        have x := tg.ext I.hok (kp_un un)
        obtain ⟨a4, r4⟩ := exitOk g3 H3 s3 a3 r3 x
        rw [h1] at hfin
        have hfin : Fin Z W σ g H s (.ok w (dropCells (enter F ws s).1.ce s3 F.cs)) (KV Q) := hfin
        refine ⟨v, _, I.call' (ch := []) os un4 hok4 bare (fun _ z => nomatch z), ru, hfin _ _ a4 r4 v ?_⟩
        exact Rep.mono ⟨[], by simp⟩ (fun b xs z => x.keeps z fun o z => by cases z) _ _ hw
      | next => exact False.elim hq
      | brk => exact False.elim hq
      | cont => exact False.elim hq
end
end Ev
/-! EvL3: a lambda is called. -/
namespace Ev
open PySem PySem.Spec PyProof.Rows
open L2 (V HO Hp Cx Inv PE PT PA PS PSs PG PGs PI PW PO PK PTs RelV Vals upd upd_same upd_ne SqL SqT TE TT TA TS TG TGs TI TO WX XK VK Room Takes EP FpOk Ends Un UB HOk ObjOk Env0)
/-- where a lambda's body runs -/
def bodyCx (X : Cx) (A : Around) (outer : List PySem.Env) (sh : Shared) (H : Hp) (E : XK) (N : List Str) (q : Str) (scope : Scope) (f c' : Addr) (cl : List (Str × Addr)) : Cx where
  prog := X.prog
  w := X.w
  K := X.K
  mg := X.mg
  base := X.base
  A := A.deeper (PySem.W.envX q scope sh.heap.objs.size f (.ref c') cl)
  N := N
  s_0 := sh
  H_0 := H
  env := PySem.W.envX q scope sh.heap.objs.size f (.ref c') cl
  outer := outer
  stack := PySem.W.envX q scope sh.heap.objs.size f (.ref c') cl :: outer
  ex := []
  fn := fun _ => false
  calm := true
  pn := []
  xe := fun e s' => wpAny (model X.prog X.w) (A.deeper (PySem.W.envX q scope sh.heap.objs.size f (.ref c') cl)) (leaving (PySem.W.envX q scope sh.heap.objs.size f (.ref c') cl) e) (fun _ s'' => L2.CX X.prog X.w outer H sh E e s'') (fun e' s'' => L2.CX X.prog X.w outer H sh E e' s'') s'
section
variable {Z : Zx} {cs : List Nat} {W : WX} {X : Cx} {σ σ' : L2.St} {g g1 g2 g3 : Gh} {H H1 H2 H3 : Hp} {s s1 s2 s3 s4 s' : S} {en en' : Env} {α β : Type} {K : PySem.W.Frag} {d n : Nat} {C : Ctx} {P : Program} {w : World}
theorem get3 {A : List (Option α)} {B : List (Option α)} {k i : Nat} {x : α} (h : (A ++ (B ++ List.replicate k none))[i]? = some (some x)) : (i < A.length ∧ A[i]? = some (some x)) ∨ (A.length ≤ i ∧ i < A.length + B.length ∧ B[i - A.length]? = some (some x)) := by
  by_cases h1 : i < A.length
  · rw [List.getElem?_append_left h1] at h
    exact .inl ⟨h1, h⟩
  · rw [List.getElem?_append_right (by omega)] at h
    by_cases h2 : i - A.length < B.length
    · rw [List.getElem?_append_left h2] at h
      exact .inr ⟨by omega, by omega, h⟩
    · rw [List.getElem?_append_right (by omega), List.getElem?_replicate] at h
      split at h <;> cases h
theorem get3b {A B R : List (Option α)} {i : Nat} {o : Option α} (h : B[i]? = some o) : (A ++ (B ++ R))[A.length + i]? = some o := by
  rw [List.getElem?_append_right (by omega)]
  have : A.length + i - A.length = i := by omega
  rw [this, List.getElem?_append_left (List.getElem?_eq_some_iff.mp h).1]
  exact h
theorem get3a {A R : List (Option α)} {i : Nat} {o : Option α} (h : A[i]? = some o) : (A ++ R)[i]? = some o := by
  rw [List.getElem?_append_left (List.getElem?_eq_some_iff.mp h).1]
  exact h
/-- the captured cells' values -/
theorem caps_of {φ : List Addr} (inf : Nat → Option D → Option V → Prop) : ∀ {cs : List Nat} {vs : List (Option D)}, (∀ (i c : Nat) (ow : Option D), cs[i]? = some c → vs[i]? = some ow → ∃ o : Option V, inf c ow o) → vs.length = cs.length →
    ∃ os : List (Option V), os.length = cs.length ∧ ∀ (i c : Nat) (ow : Option D), cs[i]? = some c → vs[i]? = some ow → ∃ o, os[i]? = some o ∧ inf c ow o
  | [], [], _, _ => ⟨[], rfl, fun i c ow h => by simp at h⟩
  | [], _ :: _, _, h => by simp at h
  | _ :: _, [], _, h => by simp at h
  | c :: cs, ow :: vs, hi, hl => by
    obtain ⟨os, h1, h2⟩ := caps_of (φ := φ) inf (cs := cs) (vs := vs) (fun i c' ow' e1 e2 => hi (i + 1) c' ow' (by simpa using e1) (by simpa using e2)) (by simpa using hl)
    obtain ⟨o, h3⟩ := hi 0 c ow rfl rfl
    refine ⟨o :: os, by simp [h1], fun i c' ow' e1 e2 => ?_⟩
    cases i with
    | zero => simp at e1 e2; subst e1 e2; exact ⟨o, rfl, h3⟩
    | succ i =>
      obtain ⟨o', k1, k2⟩ := h2 i c' ow' (by simpa using e1) (by simpa using e2)
      exact ⟨o', by simpa using k1, k2⟩
/-- what a full cell holds, wherever it stands -/
theorem full_cell {pins : List (Addr × Obj)} {s0 : Shared} (I : Inv X pins σ H s0) (G : Gd Z d C X) (r : RelS Z g H s) (e : RelE cs X g H σ en s) {c : Nat} {a : Addr} {ow : Option D} (ha : g.ψ[c]? = some a) (hc : s.c.get c = some ow) :
    ∃ o ov, s0.heap.get? a = some o ∧ o.data = .cell ov ∧ (∀ w, ow = some w → ∃ u v, ov = some u ∧ RelV v u ∧ Rep g.φ H w v) ∧ X.base.get? a = none ∧ a ∉ L2.frs X.stack := by
  by_cases hl : c ∈ g.lv
  · obtain ⟨_, ⟨o, ov, h2, h3, h4⟩, h5, h6, _⟩ := live_cell I G e hl ha
    exact ⟨o, ov, h2, h3, h4 ow hc, h5, h6⟩
  · obtain ⟨o, ov, h1, h2, h3⟩ := r.cel c a ow ha hc hl
    refine ⟨o, ov, (I.hok a _ h1).1, h2, h3, ?_, fun hm => ?_⟩
    · cases q : X.base.get? a with
      | none => rfl
      | some u => rw [(I.bs a u q).2] at h1; cases h1
    · rw [I.stkFree a hm] at h1; cases h1
theorem zip_rev_lookup {ps : List Str} {us : List Value} (hn : ps.Nodup) {i : Nat} {x : Str} {u : Value} (h1 : ps[i]? = some x) (h2 : us[i]? = some u) : (ps.zip us).reverse.lookup x = some u := by
  have key : ∀ (l : List (Str × Value)), (∀ p ∈ l, ∀ q ∈ l, p.1 = q.1 → p = q) → (x, u) ∈ l → l.lookup x = some u := by
    intro l
    induction l with
    | nil => intro _ h; simp at h
    | cons p l ih =>
      intro hu hm
      obtain ⟨y, v⟩ := p
      rw [List.lookup_cons]
      by_cases hy : x = y
      · subst hy
        have := hu _ hm (x, v) List.mem_cons_self rfl
        cases this
        simp
      · rw [beq_false_of_ne hy]
        refine ih (fun p hp q hq => hu p (List.mem_cons_of_mem _ hp) q (List.mem_cons_of_mem _ hq)) ?_
        rcases List.mem_cons.mp hm with z | z
        · cases z; exact absurd rfl hy
        · exact z
  refine key _ (fun p hp q hq e => ?_) ?_
  · rw [List.mem_reverse] at hp hq
    obtain ⟨a, ha, hpa⟩ := List.getElem_of_mem hp
    obtain ⟨b, hb, hqb⟩ := List.getElem_of_mem hq
    rw [List.getElem_zip] at hpa hqb
    subst hpa hqb
    simp only at e
    have ha' : a < ps.length := by rw [List.length_zip] at ha; omega
    have hb' : b < ps.length := by rw [List.length_zip] at hb; omega
    have : a = b := (List.getElem_inj (h₀ := ha') (h₁ := hb') hn).mp e
    subst this
    rfl
  · rw [List.mem_reverse]
    obtain ⟨a1, a2⟩ := List.getElem?_eq_some_iff.mp h1
    obtain ⟨b1, b2⟩ := List.getElem?_eq_some_iff.mp h2
    have : (ps.zip us)[i]? = some (x, u) := by
      rw [List.getElem?_zip_eq_some]
      exact ⟨h1, h2⟩
    exact List.mem_of_getElem? this
theorem callV_at {P : Pg} {k : Nat} {ws : List D} {np nf ns : Nat} {body : E} {cs : List Nat} {vs : List (Option D)} (h : s.h.get k = some (.clo np nf ns body cs)) (hv : cellVals s cs = some vs) (h1 : ws.length = np) (h2 : vs.length = nf) :
    callV P (n + 1) (.ref k) ws s = evE (callF P n) (callV P n) body ⟨ws.map some ++ (vs ++ List.replicate (ns - np - nf) none), List.replicate np none ++ (cs.map some ++ List.replicate (ns - np - nf) none)⟩ s := by
  rw [callV]
  simp only [h, hv]
  rw [nbeq_t h1, nbeq_t h2] <;> rfl
/-- a lambda called, one call deeper -/
theorem valP_succ (ihA : ∀ m, IHE Z d (callF Z.pg n) (callV Z.pg n) m) : ValP Z (d + 1) (callV Z.pg (n + 1)) := by
  intro C X W G tk pins s0 σ H w v u us vs Q g en s ws I ru hw rv r e hv hfin
  have bad : ∀ {P : Prop}, callV Z.pg (n + 1) w ws s = .bad → P := fun z => by rw [z] at hfin; exact hfin.elim
  cases w with
  | ref k =>
    obtain ⟨a, hka, rfl⟩ := rep_ref hw
    have ru : u = Value.ref a := ru
    subst ru
    obtain ⟨ob, hob, hR⟩ := r.obj k a hka
    cases ob with
    | clo np nf ns body cs =>
      cases hcv : cellVals s cs with
      | none => exact bad (by rw [callV]; simp only [hob, hcv])
      | some vs' =>
        cases hb : (Nat.beq ws.length np && Nat.beq vs'.length nf) with
        | false => exact bad (by rw [callV]; simp only [hob, hcv, hb, cond_false])
        | true =>
          simp only [Bool.and_eq_true] at hb
          have l1 := Nat.eq_of_beq_eq_true hb.1
          have l2 := Nat.eq_of_beq_eq_true hb.2
          rw [callV_at hob hcv l1 l2] at hfin
          obtain ⟨q, params, bd, scope, cl, pm, c', ctv, N, fr, m, c1, c2, c3, c4, c5, c6, c7, c8, c9, c10, c11⟩ := hR
          have lo := lamOk_of c3
          have hpl : (paramsOf params).length = np := by rw [c5]; unfold paramsOf; rw [List.length_map]
          have lcs : cs.length = nf := by rw [c8, c6]
          have lN : np + nf ≤ N.length := by
            have := congrArg List.length lo.pre
            rw [List.length_take, List.length_append, hpl, ← c6] at this
            omega
          have nPar : ∀ (i : Nat) (x : Str), (paramsOf params)[i]? = some x → N[i]? = some x := fun i x h => by
            have hi := (List.getElem?_eq_some_iff.mp h).1
            have : (N.take ((paramsOf params).length + fr.length))[i]? = some x := by rw [lo.pre, List.getElem?_append_left hi]; exact h
            rw [List.getElem?_take_of_lt (by omega)] at this; exact this
          have nFr : ∀ (i : Nat) (x : Str), fr[i]? = some x → N[np + i]? = some x := fun i x h => by
            have hi := (List.getElem?_eq_some_iff.mp h).1
            have : (N.take ((paramsOf params).length + fr.length))[np + i]? = some x := by
              rw [lo.pre, List.getElem?_append_right (by omega), hpl]
              have : np + i - np = i := by omega
              rw [this]; exact h
            rw [List.getElem?_take_of_lt (by omega)] at this; exact this
          have full : ∀ c ∈ cs, ∃ ow, s.c.get c = some ow := fun c hc => by
            obtain ⟨i, hi, hic⟩ := List.getElem_of_mem hc
            obtain ⟨b, _, h2⟩ := mapO_get hcv (i := i) (a := c) (by rw [List.getElem?_eq_getElem hi, hic])
            exact ⟨b, h2⟩
          -- a captured name
          have capOf : ∀ (i : Nat) (x : Str), fr[i]? = some x → ∃ c b ow, cs[i]? = some c ∧ cl.lookup x = some b ∧ g.ψ[c]? = some b ∧ vs'[i]? = some ow ∧ s.c.get c = some ow := fun i x h => by
            have hi : i < cs.length := by rw [c8]; exact (List.getElem?_eq_some_iff.mp h).1
            obtain ⟨b, h1, h2⟩ := c9 i x cs[i] h (List.getElem?_eq_getElem hi)
            obtain ⟨ow, h3, h4⟩ := mapO_get hcv (i := i) (List.getElem?_eq_getElem hi)
            exact ⟨cs[i], b, ow, List.getElem?_eq_getElem hi, h1, h2, h3, h4⟩
          have clOf : ∀ x b, cl.lookup x = some b → ∃ (i c : Nat) (ow : Option D), fr[i]? = some x ∧ cs[i]? = some c ∧ g.ψ[c]? = some b ∧ vs'[i]? = some ow ∧ s.c.get c = some ow := fun x b h => by
            obtain ⟨i, hi, hix⟩ := List.getElem_of_mem (c11 x b h)
            have hix : fr[i]? = some x := by rw [List.getElem?_eq_getElem hi, hix]
            obtain ⟨c, b', ow, k1, k2, k3, k4, k5⟩ := capOf i x hix
            rw [h] at k2
            cases k2
            exact ⟨i, c, ow, hix, k1, k3, k4, k5⟩
          have tg := tag_of I G r e cs full
          have rE := rel_entry I G r e cs full
          obtain ⟨H2, hH2⟩ : ∃ H2 : Hp, H2 = entH s0.heap (livA g) (cs.filterMap (g.ψ[·]?)) H := ⟨_, rfl⟩
          have e0 : Env0 X.prog X.w X.K X.mg X.base X.A X.stack s0 H2 := by rw [hH2]; exact tg.env0 I.env0
          rw [← hH2] at rE
          have ht : ∀ b xs, H b = some (.tup xs) → H2 b = some (.tup xs) := fun b xs z => by rw [hH2]; exact tg.keeps z fun o z => by cases z
          have hvE : Reps g.φ H2 ws vs := Reps.mono ⟨[], by simp⟩ ht _ _ hv
          have inBs : ∀ x b, cl.lookup x = some b → b ∈ cs.filterMap (g.ψ[·]?) := fun x b h => by
            obtain ⟨i, c, ow, _, k2, k3, _⟩ := clOf x b h
            exact List.mem_filterMap.mpr ⟨c, List.mem_of_getElem? k2, k3⟩
          -- the values in the captured cells
          obtain ⟨os, ol, oat⟩ := caps_of (φ := g.φ) (fun c ow o => (ow = none → o = none) ∧ ∀ b, g.ψ[c]? = some b → ∀ w, ow = some w → ∃ v u oc, o = some v ∧ Rep g.φ H2 w v ∧ RelV v u ∧ s0.heap.get? b = some oc ∧ oc.data = .cell (some u)) (cs := cs) (vs := vs') (fun i c ow h1 h2 => by
            cases hb : g.ψ[c]? with
            | none => exact ⟨none, fun _ => rfl, fun b hb' => by cases hb'⟩
            | some b =>
              obtain ⟨ow', h3, h4⟩ := mapO_get hcv h1
              rw [h2] at h3
              cases h3
              cases ow with
              | none => exact ⟨none, fun _ => rfl, fun _ _ w hw => by cases hw⟩
              | some w0 =>
                obtain ⟨o, ov, k1, k2, k3, _⟩ := full_cell I G r e hb h4
                obtain ⟨u, v, j1, j2, j3⟩ := k3 w0 rfl
                refine ⟨some v, fun z => by (cases z), fun b' hb' w hw => ?_⟩
                cases hw
                cases hb'
                exact ⟨v, u, o, rfl, Rep.mono ⟨[], by simp⟩ ht _ _ j3, j2, k1, by rw [k2, j1]⟩) (by rw [l2, lcs])
          obtain ⟨σl, hσl⟩ : ∃ σl : L2.St, σl = vs.map some ++ (os ++ List.replicate (ns - np - nf) none) := ⟨_, rfl⟩
          obtain ⟨enl, henl⟩ : ∃ enl : Env, enl = ⟨ws.map some ++ (vs' ++ List.replicate (ns - np - nf) none), List.replicate np none ++ (cs.map some ++ List.replicate (ns - np - nf) none)⟩ := ⟨_, rfl⟩
          rw [← henl] at hfin
          obtain ⟨rr, hrr⟩ : ∃ rr : R D, rr = evE (callF Z.pg n) (callV Z.pg n) body enl s := ⟨_, rfl⟩
          rw [← hrr] at hfin
          have hnb : rr ≠ .bad := fun z => by rw [z] at hfin; exact hfin
          obtain ⟨g2, hg2⟩ : ∃ g2 : Gh, g2 = { g with lv := cs } := ⟨_, rfl⟩
          obtain ⟨E', hE'⟩ : ∃ E' : XK, E' = fun cls dx H3 => ∃ c ws' s3, rr = .ex c ws' s3 ∧ ExK Z [] g2 H2 s c ws' s3 cls dx H3 := ⟨_, rfl⟩
          obtain ⟨Q', hQ'⟩ : ∃ Q' : VK, Q' = fun v H3 => ∃ w s3 g3, rr = .ok w s3 ∧ After [] g2 H2 s g3 H3 s3 ∧ RelS Z g3 H3 s3 ∧ Rep g3.φ H3 w v := ⟨_, rfl⟩
          rw [← hg2] at rE
          have lvs : vs.length = np := by rw [← hv.len, l1]
          have lus : us.length = (paramsOf params).length := by rw [← rv.length, lvs, hpl]
          have nopar : (paramsOf params).Nodup := by
            have h1 : (paramsOf params ++ fr).Nodup := by rw [← lo.pre]; exact lo.nd.sublist (List.take_sublist _ _)
            exact (List.nodup_append.mp h1).1
          have of1 : s0.heap.get? a = some (PySem.W.kla_obj "<lambda>" q params bd scope cl pm c' ctv) := fnAt_of I c1
          have hC2 : H2 c' = some (LamX.CodeO c' q) := by rw [hH2]; exact tg.keeps c2 fun o z => by unfold LamX.CodeO at z; cases z
          obtain ⟨⟨oc, vsc, tc, hoc, hdc, hvc⟩, _, _⟩ := I.hok c' _ c2
          have hr : Room (d + 1) X.A := G.room
          have rc : codeAny (model X.prog X.w) X.A (.call (.ref a) ⟨us, []⟩) (L2.CR (L2.CX X.prog X.w) X.stack X.prog X.w H2 s0 Q' E') s0 := by
            refine PySem.W.kla_callFunE hr.depth of1 rfl lo.co lo.gen rfl ⟨c', oc, vsc, tc, rfl, hoc, hdc, hvc⟩ ?_
            rw [show bindArgs (PySem.W.kla_fn "<lambda>" q params bd scope cl pm (.ref c') ctv) ⟨us, []⟩ = pure ((paramsOf params).zip us) from bind_plain lo.plain rfl nopar lus]
            refine wpAny_pure (wpAny_newFunctionEnv lo.nocell (fun y hy => lo.par y.1 (List.of_mem_zip hy).1) (fun h₁ hns hsb => ⟨I.nolimit.fresh _ hsb, ?_⟩) lo.kind)
            show codeAny _ _ (.expr bd (PySem.W.envX q scope s0.heap.objs.size a (.ref c') cl)) _ _
            have kp : ∀ b o, s0.heap.get? b = some o → h₁.get? b = some o := fun b o e => hsb.extBut b o (Nat.ne_of_lt (Heap.lt_size e)) (Heap.get?_push_of_some _ e)
            have noA : ∀ b : Addr, b ∉ (bodyCx X X.A X.stack s0 H2 E' N q scope a c' cl).ex := fun b z => absurd (show b ∈ ([] : List Addr) from z) (by simp)
            have cellAt : ∀ y b, cl.lookup y = some b → ∃ o ov, s0.heap.get? b = some o ∧ o.data = .cell ov := fun y b hb => by
              obtain ⟨i, c, ow, _, _, k3, _, k5⟩ := clOf y b hb
              obtain ⟨o, ov, j1, j2, _⟩ := full_cell I G r e k3 k5
              exact ⟨o, ov, j1, j2⟩
            have J : Inv (bodyCx X X.A X.stack s0 H2 E' N q scope a c' cl) [] σl H2 { s0 with heap := h₁, toks := s0.toks + ((paramsOf params).zip us).length } := by
              refine ⟨⟨e0.mod, lo.kind, rfl, rfl, Nat.le_refl _, fun y z c k1 k2 => c10 y z c k1 k2, fun y hy => ?_, fun y c z _ => ?_, fun _ => hr.hd, Around.frames_deeper e0.frames, .inr ⟨rfl, rfl⟩, fun b z => absurd z (noA b), e0.bs, e0.bsz, fun b _ _ => noA b, fun b z => absurd z (noA b), e0.funs, e0.frf⟩,
                rfl, e0.bare, Un.kept kp, ⟨_, hns, fun i y v k1 k2 k3 => ?_⟩, fun y c k1 => ?_, e0.hok.fresh (Nat.le_refl _), fun y c k1 => ?_, fun p hp => absurd (show p ∈ ([] : List (Addr × Obj)) ++ [] from hp) (by simp), e0.hok.kept kp, ?_⟩
              · have hy : scope.names.lookup y = some .cell ∨ scope.names.lookup y = some .free := hy
                rcases hy with hy | hy
                · exact absurd rfl (lo.nocell _ (PySem.mem_of_lookup hy))
                · obtain ⟨i, hi, hiy⟩ := List.getElem_of_mem (lo.cap _ (PySem.mem_of_lookup hy) rfl)
                  obtain ⟨_, b, _, _, k2, _⟩ := capOf i y (by rw [List.getElem?_eq_getElem hi, hiy])
                  exact ⟨b, k2⟩
              · have z : false = true := z
                cases z
              · have k1 : N[i]? = some y := k1
                rw [hσl] at k2
                rcases get3 k2 with ⟨q1, q2⟩ | ⟨q1, q2, q3⟩
                · rw [List.length_map] at q1
                  have hvi : vs[i]? = some v := by
                    rw [List.getElem?_map] at q2
                    cases z : vs[i]? with
                    | none => rw [z] at q2; cases q2
                    | some v0 => rw [z] at q2; cases q2; rfl
                  obtain ⟨u, h3, h4⟩ := rv.get hvi
                  have hpi : i < (paramsOf params).length := by rw [hpl, ← lvs]; exact q1
                  have hpx := nPar i _ (List.getElem?_eq_getElem hpi)
                  rw [k1] at hpx
                  cases hpx
                  refine ⟨u, h4, .inl ⟨lo.par _ (List.getElem_mem hpi), zip_rev_lookup nopar (List.getElem?_eq_getElem hpi) h3⟩⟩
                · rw [List.length_map, lvs] at q1 q2 q3
                  have hfi : i - np < fr.length := by rw [← c6, ← lcs, ← ol]; omega
                  have hfx := List.getElem?_eq_getElem hfi
                  have hnx := nFr _ _ hfx
                  have : np + (i - np) = i := by omega
                  rw [this, k1] at hnx
                  cases hnx
                  obtain ⟨c, b, ow, j1, j2, j3, j4, j5⟩ := capOf (i - np) _ hfx
                  obtain ⟨o, j6, j7⟩ := oat (i - np) c ow j1 j4
                  rw [q3] at j6
                  cases j6
                  cases ow with
                  | none => cases j7.1 rfl
                  | some w0 =>
                    obtain ⟨v', u, oc', i1, i2, i3, i4, i5⟩ := j7.2 b j3 w0 rfl
                    cases i1
                    exact ⟨u, i3, .inr ⟨.inr (lo.fre _ (List.getElem_mem hfi)), b, j2, _, kp _ _ i4, i5⟩⟩
              · obtain ⟨o, ov, j1, j2⟩ := cellAt y c k1
                exact ⟨ov, o, kp _ _ j1, j2⟩
              · rw [hH2]; exact entH_bs (inBs y c k1)
              · show σl.length = N.length
                rw [hσl]
                simp only [List.length_append, List.length_map, List.length_replicate, lvs, ol, lcs, c7]
                omega
            have G' : Gd Z d (lamC Z.tx N scope params fr) (bodyCx X X.A X.stack s0 H2 E' N q scope a c' cl) := by
              refine { P := G.P, w := G.w, K := G.K, mg := G.mg, base := G.base, T := rfl, N := rfl, nd := lo.nd, sc := rfl, calm := rfl, room := hr.deeper _, cf := fun y b hy => ?_, lam := fun hn => absurd rfl hn }
              obtain ⟨i, c, ow, _, _, k3, _, k5⟩ := clOf y b hy
              obtain ⟨o, ov, j1, j2, _, j4, j5⟩ := full_cell I G r e k3 k5
              refine ⟨j4, fun hm => ?_⟩
              have hm : b ∈ L2.frs (PySem.W.envX q scope s0.heap.objs.size a (.ref c') cl :: X.stack) := hm
              unfold L2.frs at hm
              rw [List.filterMap_cons] at hm
              rcases List.mem_cons.mp hm with z | z
              · rw [z] at j1
                exact absurd (Heap.lt_size j1) (Nat.lt_irrefl _)
              · exact j5 z
            have tk' : L2.Takes (bodyCx X X.A X.stack s0 H2 E' N q scope a c' cl) (fun cls dx _ H => E' cls dx H) := L2.takes_of rfl rfl rfl rfl
            have rEl : RelE (lamC Z.tx N scope params fr).cs (bodyCx X X.A X.stack s0 H2 E' N q scope a c' cl) g2 H2 σl enl s := by
              refine ⟨?_, ?_, fun i w hw => ?_, fun i c hc => ?_, fun c hc => ?_⟩
              · show enl.σ.length = N.length
                rw [henl]
                simp only [List.length_append, List.length_map, List.length_replicate, l1, l2, c7]
                omega
              · show enl.ce.length = N.length
                rw [henl]
                simp only [List.length_append, List.length_map, List.length_replicate, lcs, c7]
                omega
              · rw [henl] at hw
                rcases get3 hw with ⟨q1, q2⟩ | ⟨q1, q2, q3⟩
                · have hwi : ws[i]? = some w := by
                    rw [List.getElem?_map] at q2
                    cases z : ws[i]? with
                    | none => rw [z] at q2; cases q2
                    | some v0 => rw [z] at q2; cases q2; rfl
                  obtain ⟨v, h3, h4⟩ := hvE.get hwi
                  refine ⟨v, ?_, by rw [hg2]; exact h4⟩
                  rw [hσl]
                  exact get3a (by rw [List.getElem?_map, h3] <;> rfl)
                · rw [List.length_map, l1] at q1 q2 q3
                  have hci : i - np < cs.length := by rw [lcs, ← l2]; omega
                  obtain ⟨o, j6, j7⟩ := oat (i - np) _ (some w) (List.getElem?_eq_getElem hci) q3
                  have hfi : i - np < fr.length := by rw [← c8]; exact hci
                  obtain ⟨c, b, ow, j1, j2, j3, j4, j5⟩ := capOf (i - np) _ (List.getElem?_eq_getElem hfi)
                  rw [List.getElem?_eq_getElem hci] at j1
                  cases j1
                  obtain ⟨v, u, oc', i1, i2, _⟩ := j7.2 b j3 w rfl
                  subst i1
                  refine ⟨v, ?_, by rw [hg2]; exact i2⟩
                  rw [hσl]
                  have := get3b (A := vs.map some) (R := List.replicate (ns - np - nf) none) j6
                  rw [List.length_map, lvs] at this
                  have hh : np + (i - np) = i := by omega
                  rw [hh] at this
                  exact this
              · have hc0 := hc
                rw [henl] at hc
                rcases get3 hc with ⟨q1, q2⟩ | ⟨q1, q2, q3⟩
                · rw [List.getElem?_replicate] at q2
                  split at q2 <;> cases q2
                · rw [List.length_replicate] at q1 q2 q3
                  rw [List.length_map] at q2
                  have hci : i - np < cs.length := by omega
                  rw [List.getElem?_map, List.getElem?_eq_getElem hci] at q3
                  have q3 : cs[i - np] = c := by cases q3; rfl
                  have hfi : i - np < fr.length := by rw [← c8]; exact hci
                  obtain ⟨c0, b, ow, j1, j2, j3, j4, j5⟩ := capOf (i - np) _ (List.getElem?_eq_getElem hfi)
                  rw [List.getElem?_eq_getElem hci, q3] at j1
                  cases j1
                  have hh : np + (i - np) = i := by omega
                  have hnx := nFr _ _ (List.getElem?_eq_getElem hfi)
                  rw [hh] at hnx
                  refine ⟨_, b, hnx, j2, by rw [hg2]; exact j3, ?_, by rw [hg2]; exact q3 ▸ List.getElem_mem hci, ?_, .inr (lo.fre _ (List.getElem_mem hfi))⟩
                  · have := get3b (A := ws.map some) (R := List.replicate (ns - np - nf) none) j4
                    rw [List.length_map, l1, hh] at this
                    rw [henl]
                    show _ = some (((ws.map some ++ (vs' ++ List.replicate (ns - np - nf) none))[i]?).join)
                    rw [this]
                    exact j5
                  · show i ∈ List.range' params.args.length fr.length
                    rw [List.mem_range'_1]
                    omega
              · rw [hg2] at hc
                have hc : c ∈ cs := hc
                obtain ⟨i, hi, hic⟩ := List.getElem_of_mem hc
                refine ⟨np + i, ?_⟩
                rw [henl]
                have := get3b (A := List.replicate np (none : Option Nat)) (B := cs.map some) (R := List.replicate (ns - np - nf) none) (i := i) (o := some c) (by rw [List.getElem?_map, List.getElem?_eq_getElem hi, hic] <;> rfl)
                rw [List.length_replicate] at this
                exact this
            have pe := ((ihA m).pe _ _ _ G' tk' bd body c4).1
            refine PySem.W.kla_codeExpr (wpAny_mono (pe.run [] _ σl H2 Q' J ⟨g2, enl, s, rE, rEl, ?_⟩) (fun v s' hq => ?_) fun e s' hq => hq)
            · rw [← hrr]
              cases rr with
              | bad => exact absurd rfl hnb
              | ok w s3 => exact fun g3 H3 a3 r3 v hv => by rw [hQ']; exact ⟨w, s3, g3, rfl, a3, r3, hv⟩
              | ex c ws' s3 => exact fun cls dx H3 x => by rw [hE']; exact ⟨c, ws', s3, rfl, x⟩
            · obtain ⟨w', H', J', rv', q'⟩ := hq
              exact ⟨w', H', J'.os, J'.bare, J'.base, J'.hok, rv', q'⟩
          have exitOk : ∀ (g3 : Gh) (H3 : Hp) (s3 : Ev.S), After [] g2 H2 s g3 H3 s3 → RelS Z g3 H3 s3 → Ext (livA g) (cs.filterMap (g.ψ[·]?)) s0.heap H H3 →
              After [] g H s { g3 with lv := g.lv } (extH (livA g) (cs.filterMap (g.ψ[·]?)) H H3) s3 ∧ RelS Z { g3 with lv := g.lv } (extH (livA g) (cs.filterMap (g.ψ[·]?)) H H3) s3 := fun g3 H3 s3 a3 r3 x => by
            refine rel_exit (ks := cs) (g2 := g2) (L := []) I G r e full (own := []) (s2 := s) (by rw [← hH2]; exact a3) r3 x (by rw [hg2]) (by rw [hg2, List.append_nil]) (Nat.le_refl _) (fun c hc => by simp at hc) (fun _ _ => rfl) rfl rfl rfl (fun c ow h => ⟨h, fun hl3 => ?_⟩) fun _ _ => rfl
            rw [a3.lv, hg2] at hl3
            exact hl3
          refine wpAny_call (codeAny_mono rc fun rr' s' hq => ?_)
          cases rr' with
          | error er =>
            refine tk er s' (L2.XE.of_call (E := fun cls dx H4 => W cls dx σ H4) I (fun _ _ _ z => z) ?_)
            have hq : L2.CX X.prog X.w X.stack H2 s0 E' er s' := hq
            rw [hH2] at hq
            refine tg.cx I.env0 hq fun cls dx H3 x hE => ?_
            rw [hE'] at hE
            obtain ⟨c, ws', s3, h1, h2, g3, a3, r3, dxa, fs, vs', fds, par, h3, h4, h5, h6, h7⟩ := hE
            obtain ⟨a4, r4⟩ := exitOk g3 H3 s3 a3 r3 x
            rw [h1] at hfin
            have hfin : ∀ cls d H', ExK Z [] g H s c ws' s3 cls d H' → W cls d σ H' := hfin
            exact hfin cls dx _ ⟨h2, _, a4, r4, dxa, fs, vs', fds, par, h3, x.keeps h4 (fun o z => by cases z), Reps.mono ⟨[], by simp⟩ (fun b xs z => x.keeps z fun o z => by cases z) _ _ h5, h6, h7⟩
          | ok fl =>
            cases fl with
            | ret u =>
              have hq : L2.CE X.stack X.prog X.w H2 s0 Q' u s' := hq
              obtain ⟨v, H3, os', bare, un, hok, ru, hQ⟩ := hq
              rw [hQ'] at hQ
              obtain ⟨w, s3, g3, h1, a3, r3, hw'⟩ := hQ
              rw [hH2] at un
              obtain ⟨un4, hok4⟩ := tg.un I.hok I.stkFree un hok
              have x := tg.ext I.hok (kp_un un)
              obtain ⟨a4, r4⟩ := exitOk g3 H3 s3 a3 r3 x
              rw [h1] at hfin
              have hfin : Fin Z W σ g H s (.ok w s3) (KV Q) := hfin
              refine ⟨v, _, I.call' (ch := []) os' un4 hok4 bare (fun _ z => nomatch z), ru, hfin _ _ a4 r4 v ?_⟩
              exact Rep.mono ⟨[], by simp⟩ (fun b xs z => x.keeps z fun o z => by cases z) _ _ hw'
            | next => exact False.elim hq
            | brk => exact False.elim hq
            | cont => exact False.elim hq
    | _ => exact bad (by rw [callV]; simp only [hob])
  | _ => exact bad (by rw [callV]; intro k z; cases z)
end
end Ev
/-! EvM: zip of any number of tuples, at the library's level (turned from the kit's zip of two). -/
namespace ZN
open PySem
open PySem.Sem (wp)
theorem typeCall (l : List Value) : checkTypeCall "zip" ⟨l, []⟩ = pure () := by kernel_rfl
theorem newCall (a : Value) (l : List Value) : checkBuiltinCall "zip.__new__" ⟨.type "zip" :: a :: l, []⟩ = pure () := by kernel_rfl
theorem initArgs (a : Value) (l : List Value) : argsOk "object.__init__" ⟨a :: l, []⟩ := by
  unfold argsOk; rw [signature?_of (id := "object.__init__") (n := ['_', '_', 't', 'i', 'n', 'i', '_', '_']) (o := ['t', 'c', 'e', 'j', 'b', 'o']) (by kernel_rfl) F.owner_object]; kernel_rfl
/-- the iterators stand from B on -/
def refs (B n : Nat) : List Value := (List.range' B n).map Value.ref
abbrev zipO (f0 f1 : Value) (TI TO : Addr) : Obj := { cls := .type "zip", dict := none, data := .fields #[f0, f1, .bool false, .ref TI, .ref TO], slots := #[] }
abbrev tupO (l : List Value) : Obj := { cls := .type "tuple", data := .seq l.toArray }
/-- the tuples walked: their places, their items -/
abbrev Rows := List (Nat × List Value)
theorem ad {a b : Nat} (h : a ≠ b) : @Ne Addr a b := h
/-- the zip object's parts, each iterator at its place -/
structure Zs (h : Heap) (B : Nat) (ls : Rows) (f0 f1 : Value) (kept : List Value) (pos : Nat → Nat) : Prop where
  z : h.get? (B + ls.length + 2) = some (zipO f0 f1 (B + ls.length) (B + ls.length + 1))
  ti : h.get? (B + ls.length) = some (tupO (refs B ls.length))
  to : h.get? (B + ls.length + 1) = some (tupO kept)
  it : ∀ (k : Nat) (l : Nat) (xs : List Value), ls[k]? = some (l, xs) → h.IsTupleIter (B + k) l (pos k) ∧ h.IsTuple l xs.toArray ∧ l < B
theorem refs_get {B n k : Nat} (h : k < n) : (refs B n)[k]? = some (.ref (B + k)) := by
  unfold refs
  rw [List.getElem?_map, List.getElem?_range' h]
  simp
theorem refs_len (B n : Nat) : (refs B n).length = n := by unfold refs; simp
section
variable {prog : Program} {w : World} {A : Around} {E : Value → Shared → Prop} {s : Shared} {B : Nat} {ls : Rows} {f0 f1 : Value} {kept : List Value} {pos : Nat → Nat} {h h' : Heap}
theorem row_lt {l : Nat} {xs : List Value} {k : Nat} (e : ls[k]? = some (l, xs)) : k < ls.length := (List.getElem?_eq_some_iff.mp e).1
/-- the zip object's own fields are written -/
theorem Zs.setZ {g0 g1 : Value} (Z : Zs h B ls f0 f1 kept pos) (hz : h'.get? (B + ls.length + 2) = some (zipO g0 g1 (B + ls.length) (B + ls.length + 1))) (hs : Heap.SameBut (B + ls.length + 2) h h') : Zs h' B ls g0 g1 kept pos where
  z := hz
  ti := (hs.2 _ (ad (by omega))).trans Z.ti
  to := (hs.2 _ (ad (by omega))).trans Z.to
  it := fun k l xs e => by
    have hk := row_lt e
    obtain ⟨a, b, c⟩ := Z.it k l xs e
    exact ⟨a.at fun o q => (hs.2 _ (ad (by omega))).trans q, b.at fun o q => (hs.2 _ (ad (by omega))).trans q, c⟩
/-- the tuple that is handed out again is written -/
theorem Zs.setTO {kept' : List Value} (Z : Zs h B ls f0 f1 kept pos) (hz : h'.get? (B + ls.length + 1) = some (tupO kept')) (hs : Heap.SameBut (B + ls.length + 1) h h') : Zs h' B ls f0 f1 kept' pos where
  z := (hs.2 _ (ad (by omega))).trans Z.z
  ti := (hs.2 _ (ad (by omega))).trans Z.ti
  to := hz
  it := fun k l xs e => by
    have hk := row_lt e
    obtain ⟨a, b, c⟩ := Z.it k l xs e
    exact ⟨a.at fun o q => (hs.2 _ (ad (by omega))).trans q, b.at fun o q => (hs.2 _ (ad (by omega))).trans q, c⟩
/-- the iterator m has gone on -/
theorem Zs.turn {m : Nat} {l : Nat} {xs : List Value} {pos' : Nat → Nat} (Z : Zs h B ls f0 f1 kept pos) (hm : ls[m]? = some (l, xs)) (hi : h'.IsTupleIter (B + m) l (pos' m)) (hs : Heap.SameBut (B + m) h h') (hp : ∀ k, k ≠ m → pos' k = pos k) : Zs h' B ls f0 f1 kept pos' := by
  have hml := row_lt hm
  refine ⟨(hs.2 _ (ad (by omega))).trans Z.z, (hs.2 _ (ad (by omega))).trans Z.ti, (hs.2 _ (ad (by omega))).trans Z.to, fun k l' xs' e => ?_⟩
  obtain ⟨a, b, c⟩ := Z.it k l' xs' e
  refine ⟨?_, b.at fun o q => (hs.2 _ (ad (by omega))).trans q, c⟩
  by_cases hk : k = m
  · subst hk
    rw [hm] at e
    cases e
    exact hi
  · rw [hp k hk]
    exact a.at fun o q => (hs.2 _ (ad (by omega))).trans q
/-- all the rest is kept -/
theorem Zs.keeps (Z : Zs h B ls f0 f1 kept pos) (k : ∀ b o, h.get? b = some o → h'.get? b = some o) : Zs h' B ls f0 f1 kept pos := ⟨k _ _ Z.z, k _ _ Z.ti, k _ _ Z.to, fun i l xs e => by
    obtain ⟨a, b, c⟩ := Z.it i l xs e
    exact ⟨a.at fun o q => k _ _ q, b.at fun o q => k _ _ q, c⟩⟩
/-- what stands aside: not of the zip object's parts -/
def Aside (B n : Nat) (b : Nat) : Prop := b < B ∨ B + n + 3 ≤ b
theorem iterAll_tup {Q : List Value → Shared → Prop} (hl : ∀ (k : Nat) (l : Nat) (xs : List Value), ls[k]? = some (l, xs) → s.heap.IsTuple l xs.toArray)
    (hQ : ∀ h', h'.objs.size = s.heap.objs.size + ls.length → (∀ b o, s.heap.get? b = some o → h'.get? b = some o) → (∀ (k : Nat) (l : Nat) (xs : List Value), ls[k]? = some (l, xs) → h'.IsTupleIter (s.heap.objs.size + k) l 0) → Q (refs s.heap.objs.size ls.length) { s with heap := h' }) :
    wpAny (model prog w) A (Builtin.SmallTypes.iterAll (ls.map fun r => .ref r.1)) Q E s := by
  unfold Builtin.SmallTypes.iterAll
  refine wpAny_bind (wpAny_forIn_list _ (fun rest acc s' => ∃ (m : Nat) (h' : Heap), rest = (ls.drop m).map (fun r => Value.ref r.1) ∧ m ≤ ls.length ∧ acc.toList = refs s.heap.objs.size m ∧ s' = { s with heap := h' } ∧ h'.objs.size = s.heap.objs.size + m ∧
    (∀ b o, s.heap.get? b = some o → h'.get? b = some o) ∧ ∀ (k : Nat) (l : Nat) (xs : List Value), k < m → ls[k]? = some (l, xs) → h'.IsTupleIter (s.heap.objs.size + k) l 0) _ ?_ ?_ _ _ ⟨0, s.heap, by simp, Nat.zero_le _, by simp [refs], rfl, rfl, fun _ _ q => q, fun k l xs z => by omega⟩)
  · rintro x rest acc s' ⟨m, h', e1, hm, e2, rfl, hsz, hk, hit⟩
    by_cases hlt : m < ls.length
    · have hd : ls.drop m = ls[m] :: ls.drop (m + 1) := List.drop_eq_getElem_cons hlt
      rw [hd, List.map_cons] at e1
      obtain ⟨rfl, rfl⟩ := List.cons.inj e1
      have hrow : ls[m]? = some (ls[m].1, ls[m].2) := List.getElem?_eq_getElem hlt
      have ht : h'.IsTuple ls[m].1 ls[m].2.toArray := (hl m _ _ hrow).at fun o q => hk _ _ q
      refine wpAny_bind (wpAny_holding (wpAny_pyIter_tuple (s := { s with heap := h' }) ht (wpAny_pure ⟨m + 1, h'.push { cls := .type "tuple_iterator", data := .fields #[.ref ls[m].1, .int 0 0] }, rfl, hlt, ?_, rfl, ?_, fun b o q => Heap.get?_push_of_some _ (hk b o q), fun k l xs hkm e => ?_⟩)))
      · show (acc.push (.ref h'.objs.size)).toList = _
        rw [Array.toList_push, e2, hsz]
        unfold refs
        rw [List.range'_concat, List.map_append]
        simp
      · rw [Heap.size_push, hsz]; omega
      · by_cases hkm' : k = m
        · subst hkm'
          rw [hrow] at e
          cases e
          exact ⟨_, by rw [← hsz]; exact Heap.get?_push_size _ rfl, rfl, rfl⟩
        · exact (hit k l xs (by omega) e).at fun o q => Heap.get?_push_of_some _ q
    · rw [List.drop_eq_nil_of_le (by omega)] at e1
      cases e1
  · rintro acc s' ⟨m, h', e1, hm, e2, rfl, hsz, hk, hit⟩
    have hml : m = ls.length := by
      by_cases hlt : m < ls.length
      · have hd : ls.drop m = ls[m] :: ls.drop (m + 1) := List.drop_eq_getElem_cons hlt
        rw [hd] at e1
        cases e1
      · omega
    subst hml
    refine wpAny_pure ?_
    rw [e2]
    exact hQ h' hsz hk fun k l xs e => hit k l xs (row_lt e) e
/-- zip(t, ..) is made -/
theorem make {a : Nat} {xs : List Value} {Q : Value → Shared → Prop} (hls : ls = (a, xs) :: ls.tail) (hl : ∀ (k : Nat) (l : Nat) (xs : List Value), ls[k]? = some (l, xs) → s.heap.IsTuple l xs.toArray) (hn : ls.length ≤ 16777216)
    (hQ : ∀ h', Zs h' s.heap.objs.size ls .none (.bool false) (List.replicate ls.length .none) (fun _ => 0) → h'.objs.size = s.heap.objs.size + ls.length + 3 → (∀ b o, s.heap.get? b = some o → h'.get? b = some o) → Q (.ref (s.heap.objs.size + ls.length + 2)) { s with heap := h' }) :
    wpAny (model prog w) A (call (.type "zip") (ls.map fun r => .ref r.1)) Q E s := by
  have e1 : ls.map (fun r => Value.ref r.1) = .ref a :: (ls.tail.map fun r => Value.ref r.1) := by
    conv => lhs; rw [hls]
    rfl
  have hne : (some "zip.__new__" != some "object.__new__") = true := by decide
  have g : Meets (Builtin.«zip.__new__» ⟨.type "zip" :: ls.map fun r => .ref r.1, []⟩) (fun _ R s' => s' = s ∧ ∀ h', Zs h' s.heap.objs.size ls .none (.bool false) (List.replicate ls.length .none) (fun _ => 0) → h'.objs.size = s.heap.objs.size + ls.length + 3 → (∀ b o, s.heap.get? b = some o → h'.get? b = some o) →
      R (.ok (.ret (.ref (s.heap.objs.size + ls.length + 2)))) { s with heap := h' }) := .of_wp fun prog w A R s' hR => by
    obtain ⟨rfl, hR⟩ := hR
    have hsub := sub_zip
    wp_walk using iterAll_tup hl
    intro h1 hsz hk hit
    have len1 : (refs s'.heap.objs.size ls.length).length = ls.length := refs_len _ _
    refine wpAny_bind (wpAny_newTuple ?_ (by rw [len1, sizeLine_eq]; omega))
    refine wpAny_bind (wpAny_newTuple ?_ (by rw [List.length_map, len1, sizeLine_eq]; omega))
    refine wpAny_bind (wpAny_newObj_type (data := .fields #[.none, .bool false, .bool false, .ref h1.objs.size, .ref (h1.push { cls := .type "tuple", data := .seq (refs s'.heap.objs.size ls.length).toArray }).objs.size]) ?_ (by size_fits))
    refine wpAny_pure ⟨_, rfl, ?_⟩
    have em : (refs s'.heap.objs.size ls.length).map (fun _ => Value.none) = List.replicate ls.length .none := by
      rw [List.map_const']
      rw [len1]
    have z2 : (h1.push { cls := .type "tuple", data := .seq (refs s'.heap.objs.size ls.length).toArray }).objs.size = s'.heap.objs.size + ls.length + 1 := by rw [Heap.size_push, hsz]
    have z3 : ((h1.push { cls := .type "tuple", data := .seq (refs s'.heap.objs.size ls.length).toArray }).push { cls := .type "tuple", data := .seq (List.replicate ls.length Value.none).toArray }).objs.size = s'.heap.objs.size + ls.length + 2 := by rw [Heap.size_push, z2]
    have key := hR (((h1.push { cls := .type "tuple", data := .seq (refs s'.heap.objs.size ls.length).toArray }).push { cls := .type "tuple", data := .seq (List.replicate ls.length Value.none).toArray }).push (zipO .none (.bool false) (s'.heap.objs.size + ls.length) (s'.heap.objs.size + ls.length + 1)))
      ⟨by rw [← z3]; exact Heap.get?_push_size _ rfl, Heap.get?_push_of_some _ (Heap.get?_push_of_some _ (by rw [← hsz]; exact Heap.get?_push_size _ rfl)), Heap.get?_push_of_some _ (by rw [← z2]; exact Heap.get?_push_size _ rfl),
        fun k l xs e => ⟨(hit k l xs e).at fun o q => Heap.get?_push_of_some _ (Heap.get?_push_of_some _ (Heap.get?_push_of_some _ q)), (hl k l xs e).at fun o q => Heap.get?_push_of_some _ (Heap.get?_push_of_some _ (Heap.get?_push_of_some _ (hk _ _ q))), by
          obtain ⟨o, ho, _⟩ := hl k l xs e
          exact Heap.lt_size ho⟩⟩ (by rw [Heap.size_push, z3]) fun b o q => Heap.get?_push_of_some _ (Heap.get?_push_of_some _ (Heap.get?_push_of_some _ (hk b o q)))
    rw [em]
    show R (.ok (.ret (.ref ((h1.push { cls := .type "tuple", data := .seq (refs s'.heap.objs.size ls.length).toArray }).push { cls := .type "tuple", data := .seq (List.replicate ls.length Value.none).toArray }).objs.size))) _
    rw [z3]
    simp only [hsz, z2]
    exact key
  refine callType_new F.called_zip hne (typeCall _) (by rw [e1]; exact newCall _ _) (fun obj => initArgs obj _) F.entry_zip_new g ⟨rfl, fun h' Z hsz hk => ⟨⟨_, Z.z, rfl⟩, hQ h' Z hsz hk⟩⟩
end
end ZN
/-! EvM2: a turn of zip. -/
namespace ZN
open PySem
open PySem.Sem (wp)
section
variable {prog : Program} {w : World} {A : Around} {E : Value → Shared → Prop} {s : Shared} {B : Nat} {ls : Rows} {f0 f1 : Value} {kept : List Value} {pos : Nat → Nat} {h h' : Heap}
theorem mixed {α : Type} {xl kept : List α} {k : Nat} (h1 : k < xl.length) (h2 : k < kept.length) : ((xl.take k ++ kept.drop k).toArray.setIfInBounds k xl[k]) = (xl.take (k + 1) ++ kept.drop (k + 1)).toArray := by
  rw [List.setIfInBounds_toArray]
  congr 1
  rw [List.drop_eq_getElem_cons h2, List.set_append]
  have hl : (xl.take k).length = k := by rw [List.length_take]; omega
  rw [if_neg (by rw [hl]; exact Nat.lt_irrefl _), hl, Nat.sub_self, List.set_cons_zero, List.take_succ_eq_append_getElem h1, List.append_assoc] <;> rfl
theorem next_fast {i : Nat} {xl : List Value} {Q : Value → Shared → Prop} (Z : Zs s.heap B ls .none f1 kept (fun _ => i)) (hne : ls ≠ []) (hk : kept.length = ls.length) (hx : xl.length = ls.length) (hat : ∀ (k : Nat) (l : Nat) (xs : List Value), ls[k]? = some (l, xs) → xs[i]? = xl[k]?) (hn : ls.length ≤ 16777216)
    (hQ : ∀ h', Zs h' B ls (rawInt s.heap.objs.size) (.bool false) xl (fun _ => i + 1) → h'.get? s.heap.objs.size = some (tupO xl) → h'.objs.size = s.heap.objs.size + 1 → (∀ b o, Aside B ls.length b → s.heap.get? b = some o → h'.get? b = some o) → Q (.ref s.heap.objs.size) { s with heap := h' }) :
    wpAny (model prog w) A (Builtin.«zip.__next__» ⟨[.ref (B + ls.length + 2)], []⟩) (fun fin s' => ∃ v, fin = .done (.ret v) ∧ Q v s') E s := by
  show wpAny _ _ (field (.ref _) 2 >>= _) _ _ _
  refine wpAny_bind (wpAny_field Z.z rfl (x := .bool false) rfl ?_)
  show wpAny _ _ (field (.ref _) 3 >>= _) _ _ _
  refine wpAny_bind (wpAny_field Z.z rfl (x := .ref (B + ls.length)) rfl ?_)
  refine wpAny_bind (wpAny_seqItems Z.ti rfl ?_)
  have hpos : 0 < ls.length := List.length_pos_iff.mpr hne
  have hemp : (refs B ls.length).toArray.isEmpty = false := by
    rw [Array.isEmpty_eq_false_iff_exists_mem]
    exact ⟨.ref (B + 0), by rw [List.mem_toArray]; exact List.mem_of_getElem? (refs_get hpos)⟩
  show wpAny _ _ (if (refs B ls.length).toArray.isEmpty = true then _ else _) _ _ _
  rw [if_neg (by rw [hemp]; decide)]
  show wpAny _ _ (Builtin.SmallTypes.ownedTupleIsFree (.ref (B + ls.length + 2)) >>= _) _ _ _
  refine wpAny_bind ?_
  unfold Builtin.SmallTypes.ownedTupleIsFree
  refine wpAny_bind (wpAny_field Z.z rfl (x := .none) rfl (wpAny_pure ?_))
  simp only [if_true]
  refine wpAny_bind (wpAny_rule ?_)
  refine wpAny_bind (wpAny_field Z.z rfl (x := .ref (B + ls.length + 1)) rfl ?_)
  refine wpAny_bind (wpAny_setField_rec Z.z (by simp) fun h₁ hz₁ hs₁ => ?_)
  have Z1 : Zs h₁ B ls .ellipsis f1 kept (fun _ => i) := Z.setZ hz₁ hs₁
  have kp1 : ∀ b o, Aside B ls.length b → s.heap.get? b = some o → h₁.get? b = some o := fun b o hb q => (hs₁.2 b (ad (by unfold Aside at hb; omega))).trans q
  have zl : (refs B ls.length).toArray.toList.zipIdx = (refs B ls.length).zipIdx := rfl
  refine wpAny_bind (wpAny_forIn_list _ (fun rest b s' => ∃ (m : Nat) (h' : Heap), rest = (refs B ls.length).zipIdx.drop m ∧ m ≤ ls.length ∧ b = (none, ()) ∧ s' = { s with heap := h' } ∧ h'.objs.size = s.heap.objs.size ∧
    Zs h' B ls .ellipsis f1 (xl.take m ++ kept.drop m) (fun k => if k < m then i + 1 else i) ∧ ∀ b o, Aside B ls.length b → s.heap.get? b = some o → h'.get? b = some o) _ ?_ ?_ _ _ ⟨0, h₁, by simp, Nat.zero_le _, rfl, rfl, hs₁.1, by simpa using Z1, kp1⟩)
  · rintro ⟨it, k⟩ rest b s' ⟨m, h', e1, hm, rfl, rfl, hsz, Zm, kp⟩
    by_cases hlt : m < ls.length
    · have hzl : m < (refs B ls.length).zipIdx.length := by rw [List.length_zipIdx, refs_len]; exact hlt
      rw [List.drop_eq_getElem_cons hzl] at e1
      obtain ⟨e2, rfl⟩ := List.cons.inj e1
      have hg := refs_get (B := B) hlt
      rw [List.getElem_zipIdx] at e2
      have hg2 : (refs B ls.length)[m]'(by rw [refs_len]; exact hlt) = .ref (B + m) := by
        have := List.getElem?_eq_some_iff.mp hg
        exact this.2
      simp only [hg2, Nat.zero_add] at e2
      cases e2
      obtain ⟨l, xs, hrow⟩ : ∃ l xs, ls[k]? = some (l, xs) := ⟨_, _, List.getElem?_eq_getElem hlt⟩
      obtain ⟨hit, htup, hlB⟩ := Zm.it k l xs hrow
      rw [if_neg (Nat.lt_irrefl _)] at hit
      have hxk : k < xl.length := by omega
      have hxi : xs.toArray[i]? = some xl[k] := by
        rw [List.getElem?_toArray, hat k l xs hrow, List.getElem?_eq_getElem hxk]
      refine wpAny_bind (wpAny_onRaise ?_)
      show wpAny _ _ (Builtin.SmallTypes.nextOf (.ref (B + k)) >>= _) _ _ _
      refine wpAny_bind (RZ.nextOf_tuple_item (s := { s with heap := h' }) hit htup hxi fun h₂ hit₂ hs₂ => wpAny_pure ?_)
      have Z2 : Zs h₂ B ls .ellipsis f1 (xl.take k ++ kept.drop k) (fun j => if j < k + 1 then i + 1 else i) := Zm.turn (pos' := fun j => if j < k + 1 then i + 1 else i) hrow (by rw [if_pos (Nat.lt_succ_self _)]; exact hit₂) hs₂ fun j hj => by
        by_cases h1 : j < k
        · rw [if_pos h1, if_pos (by omega)]
        · rw [if_neg h1, if_neg (by omega)]
      refine wpAny_bind (wpAny_seqItems Z2.to rfl ?_)
      have klen : (xl.take k ++ kept.drop k).length = ls.length := by rw [List.length_append, List.length_take, List.length_drop]; omega
      have mix : ((xl.take k ++ kept.drop k).toArray.setIfInBounds k xl[k]) = (xl.take (k + 1) ++ kept.drop (k + 1)).toArray := mixed hxk (by omega)
      refine wpAny_bind (wpAny_updateSeq Z2.to rfl ?_ (by rw [List.size_toArray, klen, sizeLine_eq]; omega) (by rw [Array.size_setIfInBounds, List.size_toArray, klen, sizeLine_eq]; omega))
      have hTO := Heap.get?_update_self (Obj.mapSeq (·.setIfInBounds k xl[k])) Z2.to rfl
      have sb : Heap.SameBut (B + ls.length + 1) h₂ (h₂.update (B + ls.length + 1) (Obj.mapSeq (·.setIfInBounds k xl[k]))) := Heap.SameBut.update ..
      refine wpAny_bind (wpAny_letGo (wpAny_pure ⟨k + 1, _, rfl, hlt, rfl, rfl, ?_, ?_, fun b o hb q => ?_⟩))
      · exact sb.1.trans (hs₂.1.trans hsz)
      · refine Z2.setTO (hTO.trans ?_) sb
        simp only [Obj.mapSeq, Array.size_setIfInBounds, beq_self_eq_true, if_true]
        rw [mix]
      · refine (sb.2 b (ad (by unfold Aside at hb; omega))).trans ((hs₂.2 b (ad (by unfold Aside at hb; omega))).trans (kp b o hb q))
    · rw [List.drop_eq_nil_of_le (by rw [List.length_zipIdx, refs_len]; omega)] at e1
      cases e1
  · rintro b s' ⟨m, h', e1, hm, rfl, rfl, hsz, Zm, kp⟩
    have hml : m = ls.length := by
      by_cases hlt : m < ls.length
      · have hzl : m < (refs B ls.length).zipIdx.length := by rw [List.length_zipIdx, refs_len]; exact hlt
        rw [List.drop_eq_getElem_cons hzl] at e1
        cases e1
      · omega
    subst hml
    have ek : xl.take ls.length ++ kept.drop ls.length = xl := by
      rw [List.take_of_length_le (by omega), List.drop_eq_nil_of_le (by omega), List.append_nil]
    rw [ek] at Zm
    show wpAny _ _ (seqItems? (.ref (B + ls.length + 1)) >>= _) _ _ _
    refine wpAny_bind (wpAny_seqItems Zm.to rfl ?_)
    refine wpAny_bind (wpAny_newTuple ?_ (by show xl.length ≤ _; rw [hx, sizeLine_eq]; omega))
    show wpAny _ _ (Builtin.SmallTypes.ownedTupleHandOut (.ref (B + ls.length + 2)) (.ref h'.objs.size) >>= _) _ _ _
    refine wpAny_bind ?_
    unfold Builtin.SmallTypes.ownedTupleHandOut
    have hzlt : B + ls.length + 2 < h'.objs.size := Heap.lt_size Zm.z
    have Z6 : Zs (h'.push { cls := .type "tuple", data := .seq xl.toArray }) B ls .ellipsis f1 xl (fun k => if k < ls.length then i + 1 else i) := Zm.keeps fun b o q => Heap.get?_push_of_some _ q
    refine wpAny_bind (wpAny_setField_rec Z6.z (by simp) fun h₇ hz₇ hs₇ => ?_)
    have Z7 : Zs h₇ B ls (rawInt h'.objs.size) f1 xl (fun k => if k < ls.length then i + 1 else i) := Z6.setZ hz₇ hs₇
    refine wpAny_setField_rec Z7.z (by simp) fun h₈ hz₈ hs₈ => ?_
    have Z8 : Zs h₈ B ls (rawInt h'.objs.size) (.bool false) xl (fun k => if k < ls.length then i + 1 else i) := Z7.setZ hz₈ hs₈
    refine wpAny_pure ⟨_, rfl, ?_⟩
    show Q (.ref h'.objs.size) _
    have hnz : h'.objs.size ≠ B + ls.length + 2 := by omega
    have gT : h₈.get? h'.objs.size = some (tupO xl) := (hs₈.2 _ (ad hnz)).trans ((hs₇.2 _ (ad hnz)).trans (Heap.get?_push_size _ rfl))
    rw [hsz] at gT Z8 ⊢
    refine hQ h₈ ⟨Z8.z, Z8.ti, Z8.to, fun k l xs e => ?_⟩ gT (by rw [hs₈.1, hs₇.1, Heap.size_push, hsz]) fun b o hb q => ?_
    · obtain ⟨a1, a2, a3⟩ := Z8.it k l xs e
      rw [if_pos (row_lt e)] at a1
      exact ⟨a1, a2, a3⟩
    · have hbz : b ≠ B + ls.length + 2 := by unfold Aside at hb; omega
      exact (hs₈.2 b (ad hbz)).trans ((hs₇.2 b (ad hbz)).trans (Heap.get?_push_of_some _ (kp b o hb q)))
theorem wpAny_alive {M : Model} {a : Addr} {Q : Option Obj → Shared → Prop} (h : Q (s.heap.get? a) s) : wpAny M A (loadIfAlive a) Q E s := fun Γ p hΓ => by
  unfold loadIfAlive
  rw [Sem.wp_loadIfAlive]
  exact (wpAny_pure (M := M) (A := A) (E := E) h) Γ p hΓ
theorem next_slow {i T : Nat} {xl : List Value} {Q : Value → Shared → Prop} (Z : Zs s.heap B ls (rawInt T) f1 kept (fun _ => i)) (hne : ls ≠ []) (hx : xl.length = ls.length) (hat : ∀ (k : Nat) (l : Nat) (xs : List Value), ls[k]? = some (l, xs) → xs[i]? = xl[k]?) (hn : ls.length ≤ 16777216) (hT : ∃ o, s.heap.get? T = some o)
    (hQ : ∀ h', Zs h' B ls (rawInt T) (.bool true) kept (fun _ => i + 1) → h'.get? s.heap.objs.size = some (tupO xl) → h'.objs.size = s.heap.objs.size + 1 → (∀ b o, Aside B ls.length b → s.heap.get? b = some o → h'.get? b = some o) → Q (.ref s.heap.objs.size) { s with heap := h' })
    (hf1 : f1 = .bool false ∨ f1 = .bool true) :
    wpAny (model prog w) A (Builtin.«zip.__next__» ⟨[.ref (B + ls.length + 2)], []⟩) (fun fin s' => ∃ v, fin = .done (.ret v) ∧ Q v s') E s := by
  show wpAny _ _ (field (.ref _) 2 >>= _) _ _ _
  refine wpAny_bind (wpAny_field Z.z rfl (x := .bool false) rfl ?_)
  show wpAny _ _ (field (.ref _) 3 >>= _) _ _ _
  refine wpAny_bind (wpAny_field Z.z rfl (x := .ref (B + ls.length)) rfl ?_)
  refine wpAny_bind (wpAny_seqItems Z.ti rfl ?_)
  have hpos : 0 < ls.length := List.length_pos_iff.mpr hne
  have hemp : (refs B ls.length).toArray.isEmpty = false := by
    rw [Array.isEmpty_eq_false_iff_exists_mem]
    exact ⟨.ref (B + 0), by rw [List.mem_toArray]; exact List.mem_of_getElem? (refs_get hpos)⟩
  show wpAny _ _ (if (refs B ls.length).toArray.isEmpty = true then _ else _) _ _ _
  rw [if_neg (by rw [hemp]; decide)]
  show wpAny _ _ (Builtin.SmallTypes.ownedTupleIsFree (.ref (B + ls.length + 2)) >>= _) _ _ _
  have own : wpAny (model prog w) A (Builtin.SmallTypes.ownedTupleIsFree (.ref (B + ls.length + 2))) (fun b s' => b = false ∧ ∃ h₁, s' = { s with heap := h₁ } ∧ Zs h₁ B ls (rawInt T) (.bool true) kept (fun _ => i) ∧ h₁.objs.size = s.heap.objs.size ∧ ∀ b o, Aside B ls.length b → s.heap.get? b = some o → h₁.get? b = some o) E s := by
    unfold Builtin.SmallTypes.ownedTupleIsFree
    refine wpAny_bind (wpAny_field Z.z rfl (x := rawInt T) rfl ?_)
    obtain ⟨oT, hoT⟩ := hT
    show wpAny _ _ (loadIfAlive (T : Int).toNat >>= _) _ _ _
    refine wpAny_bind (wpAny_alive ?_)
    rw [Int.toNat_natCast, hoT]
    rw [if_neg (show ¬ ((some oT).isNone = true) by simp)]
    refine wpAny_bind (wpAny_field Z.z rfl (x := f1) rfl ?_)
    rcases hf1 with rfl | rfl
    · show wpAny _ _ (setField _ 1 (.bool true) >>= _) _ _ _
      refine wpAny_bind (wpAny_setField_rec Z.z (by simp) fun h₁ hz₁ hs₁ => ?_)
      exact wpAny_pure ⟨rfl, h₁, rfl, Z.setZ hz₁ hs₁, hs₁.1, fun b o hb q => (hs₁.2 b (ad (by unfold Aside at hb; omega))).trans q⟩
    · exact wpAny_pure ⟨rfl, s.heap, rfl, Z, rfl, fun _ _ _ q => q⟩
  refine wpAny_bind (wpAny_mono own (fun b s₁ hb => ?_) fun _ _ q => q)
  obtain ⟨rfl, h₁, rfl, Z1, sz1, kp1⟩ := hb
  dsimp only
  rw [if_neg (show ¬ (false = true) by decide)]
  refine wpAny_bind (MeetsSeq2.wpAny_forIn_array _ (fun rest b s' => ∃ (m : Nat) (h' : Heap), rest = (refs B ls.length).drop m ∧ m ≤ ls.length ∧ b = (none, (xl.take m).toArray) ∧ s' = { s with heap := h' } ∧ h'.objs.size = s.heap.objs.size ∧
    Zs h' B ls (rawInt T) (.bool true) kept (fun k => if k < m then i + 1 else i) ∧ ∀ b o, Aside B ls.length b → s.heap.get? b = some o → h'.get? b = some o) _ ?_ ?_ _ _ ⟨0, h₁, by simp, Nat.zero_le _, by simp, rfl, sz1, by simpa using Z1, kp1⟩)
  · rintro it rest b s' ⟨m, h', e1, hm, rfl, rfl, hsz, Zm, kp⟩
    by_cases hlt : m < ls.length
    · have hzl : m < (refs B ls.length).length := by rw [refs_len]; exact hlt
      rw [List.drop_eq_getElem_cons hzl] at e1
      obtain ⟨e2, rfl⟩ := List.cons.inj e1
      have hg2 : (refs B ls.length)[m]'(by rw [refs_len]; exact hlt) = .ref (B + m) := (List.getElem?_eq_some_iff.mp (refs_get (B := B) hlt)).2
      rw [hg2] at e2
      subst e2
      obtain ⟨l, xs, hrow⟩ : ∃ l xs, ls[m]? = some (l, xs) := ⟨_, _, List.getElem?_eq_getElem hlt⟩
      obtain ⟨hit, htup, hlB⟩ := Zm.it m l xs hrow
      rw [if_neg (Nat.lt_irrefl _)] at hit
      have hxk : m < xl.length := by omega
      have hxi : xs.toArray[i]? = some xl[m] := by
        rw [List.getElem?_toArray, hat m l xs hrow, List.getElem?_eq_getElem hxk]
      refine wpAny_bind (wpAny_holding ?_)
      show wpAny _ _ (Builtin.SmallTypes.nextOf (.ref (B + m)) >>= _) _ _ _
      refine wpAny_bind (RZ.nextOf_tuple_item (s := { s with heap := h' }) hit htup hxi fun h₂ hit₂ hs₂ => wpAny_pure ?_)
      have Z2 : Zs h₂ B ls (rawInt T) (.bool true) kept (fun j => if j < m + 1 then i + 1 else i) := Zm.turn (pos' := fun j => if j < m + 1 then i + 1 else i) hrow (by rw [if_pos (Nat.lt_succ_self _)]; exact hit₂) hs₂ fun j hj => by
        by_cases h1 : j < m
        · rw [if_pos h1, if_pos (by omega)]
        · rw [if_neg h1, if_neg (by omega)]
      refine wpAny_pure ⟨m + 1, h₂, rfl, hlt, ?_, rfl, hs₂.1.trans hsz, Z2, fun b o hb q => (hs₂.2 b (ad (by unfold Aside at hb; omega))).trans (kp b o hb q)⟩
      rw [List.take_succ_eq_append_getElem hxk]
      simp
    · rw [List.drop_eq_nil_of_le (by rw [refs_len]; omega)] at e1
      cases e1
  · rintro b s' ⟨m, h', e1, hm, rfl, rfl, hsz, Zm, kp⟩
    have hml : m = ls.length := by
      by_cases hlt : m < ls.length
      · have hzl : m < (refs B ls.length).length := by rw [refs_len]; exact hlt
        rw [List.drop_eq_getElem_cons hzl] at e1
        cases e1
      · omega
    subst hml
    have ek : (xl.take ls.length).toArray.toList = xl := by rw [List.take_of_length_le (by omega)]
    show wpAny _ _ (newTuple (xl.take ls.length).toArray.toList >>= _) _ _ _
    rw [ek]
    refine wpAny_bind (wpAny_newTuple ?_ (by rw [hx, sizeLine_eq]; omega))
    refine wpAny_pure ⟨_, rfl, ?_⟩
    have gT : (h'.push { cls := .type "tuple", data := .seq xl.toArray }).get? h'.objs.size = some (tupO xl) := Heap.get?_push_size _ rfl
    show Q (.ref h'.objs.size) _
    have Z8 := Zm.keeps (h' := h'.push { cls := .type "tuple", data := .seq xl.toArray }) fun b o q => Heap.get?_push_of_some _ q
    rw [hsz] at gT ⊢
    refine hQ _ ⟨Z8.z, Z8.ti, Z8.to, fun k l xs e => ?_⟩ gT (by rw [Heap.size_push, hsz]) fun b o hb q => Heap.get?_push_of_some _ (kp b o hb q)
    obtain ⟨a1, a2, a3⟩ := Z8.it k l xs e
    rw [if_pos (row_lt e)] at a1
    exact ⟨a1, a2, a3⟩
end
end ZN
/-! EvM3: zip's end; tuple(zip(..)). -/
namespace ZN
open PySem
open PySem.Sem (wp)
section
variable {prog : Program} {w : World} {A : Around} {E : Value → Shared → Prop} {s : Shared} {B : Nat} {ls : Rows} {f0 f1 : Value} {kept : List Value} {pos : Nat → Nat} {h h' : Heap}
theorem next_end {i : Nat} {Q : PySem.Fin → Shared → Prop} (hh : A.handled = none) (Z : Zs s.heap B ls f0 f1 kept (fun _ => i)) (hne : ls ≠ []) (hk : kept.length = ls.length) (hn : ls.length ≤ 16777216)
    (hf : f0 = .none ∨ ∃ T : Nat, f0 = rawInt T ∧ ∃ o, s.heap.get? T = some o) (hf1 : f1 = .bool false ∨ f1 = .bool true)
    (hend : ∃ (k : Nat) (l : Nat) (xs : List Value), ls[k]? = some (l, xs) ∧ xs[i]? = none)
    (hE : ∀ h' e, (∀ b o, Aside B ls.length b → s.heap.get? b = some o → h'.get? b = some o) → (∃ o, h'.get? e = some o ∧ o.cls = .type "StopIteration") → E (.ref e) { s with heap := h' }) :
    wpAny (model prog w) A (Builtin.«zip.__next__» ⟨[.ref (B + ls.length + 2)], []⟩) Q E s := by
  show wpAny _ _ (field (.ref _) 2 >>= _) _ _ _
  refine wpAny_bind (wpAny_field Z.z rfl (x := .bool false) rfl ?_)
  show wpAny _ _ (field (.ref _) 3 >>= _) _ _ _
  refine wpAny_bind (wpAny_field Z.z rfl (x := .ref (B + ls.length)) rfl ?_)
  refine wpAny_bind (wpAny_seqItems Z.ti rfl ?_)
  have hpos : 0 < ls.length := List.length_pos_iff.mpr hne
  have hemp : (refs B ls.length).toArray.isEmpty = false := by
    rw [Array.isEmpty_eq_false_iff_exists_mem]
    exact ⟨.ref (B + 0), by rw [List.mem_toArray]; exact List.mem_of_getElem? (refs_get hpos)⟩
  show wpAny _ _ (if (refs B ls.length).toArray.isEmpty = true then _ else _) _ _ _
  rw [if_neg (by rw [hemp]; decide)]
  show wpAny _ _ (Builtin.SmallTypes.ownedTupleIsFree (.ref (B + ls.length + 2)) >>= _) _ _ _
  rcases hf with rfl | ⟨T, rfl, hT⟩
  · refine wpAny_bind ?_
    unfold Builtin.SmallTypes.ownedTupleIsFree
    refine wpAny_bind (wpAny_field Z.z rfl (x := .none) rfl (wpAny_pure ?_))
    simp only [if_true]
    refine wpAny_bind (wpAny_rule ?_)
    refine wpAny_bind (wpAny_field Z.z rfl (x := .ref (B + ls.length + 1)) rfl ?_)
    refine wpAny_bind (wpAny_setField_rec Z.z (by simp) fun h₁ hz₁ hs₁ => ?_)
    have Z1 : Zs h₁ B ls .ellipsis f1 kept (fun _ => i) := Z.setZ hz₁ hs₁
    have kp1 : ∀ b o, Aside B ls.length b → s.heap.get? b = some o → h₁.get? b = some o := fun b o hb q => (hs₁.2 b (ad (by unfold Aside at hb; omega))).trans q
    refine wpAny_bind (wpAny_forIn_list _ (fun rest b s' => ∃ (m : Nat) (h' : Heap) (kept : List Value), rest = (refs B ls.length).zipIdx.drop m ∧ m ≤ ls.length ∧ b = (none, ()) ∧ s' = { s with heap := h' } ∧ kept.length = ls.length ∧
      Zs h' B ls .ellipsis f1 kept (fun k => if k < m then i + 1 else i) ∧ (∀ b o, Aside B ls.length b → s.heap.get? b = some o → h'.get? b = some o) ∧ ∀ (k : Nat) (l : Nat) (xs : List Value), k < m → ls[k]? = some (l, xs) → xs[i]? ≠ none) _ ?_ ?_ _ _ ⟨0, h₁, kept, by simp, Nat.zero_le _, rfl, rfl, hk, by simpa using Z1, kp1, fun k l xs z => by omega⟩)
    · rintro ⟨it, k⟩ rest b s' ⟨m, h', kept', e1, hm, rfl, rfl, hkl, Zm, kp, hall⟩
      by_cases hlt : m < ls.length
      · have hzl : m < (refs B ls.length).zipIdx.length := by rw [List.length_zipIdx, refs_len]; exact hlt
        rw [List.drop_eq_getElem_cons hzl] at e1
        obtain ⟨e2, rfl⟩ := List.cons.inj e1
        rw [List.getElem_zipIdx] at e2
        have hg2 : (refs B ls.length)[m]'(by rw [refs_len]; exact hlt) = .ref (B + m) := (List.getElem?_eq_some_iff.mp (refs_get (B := B) hlt)).2
        simp only [hg2, Nat.zero_add] at e2
        cases e2
        obtain ⟨l, xs, hrow⟩ : ∃ l xs, ls[k]? = some (l, xs) := ⟨_, _, List.getElem?_eq_getElem hlt⟩
        obtain ⟨hit, htup, hlB⟩ := Zm.it k l xs hrow
        rw [if_neg (Nat.lt_irrefl _)] at hit
        refine wpAny_bind (wpAny_onRaise ?_)
        show wpAny _ _ (Builtin.SmallTypes.nextOf (.ref (B + k)) >>= _) _ _ _
        cases hx : xs[i]? with
        | none =>
          refine wpAny_bind (RZ.nextOf_tuple_end (s := { s with heap := h' }) hh hit htup (by rw [List.getElem?_toArray]; exact hx) fun h₂ e hs₂ he => ?_)
          obtain ⟨oe, hoe, hce⟩ := he
          have hz2 : h₂.get? (B + ls.length + 2) = some (zipO .ellipsis f1 (B + ls.length) (B + ls.length + 1)) := hs₂ _ _ (ad (by omega)) Zm.z
          have hez : e ≠ B + ls.length + 2 := fun x => by subst x; rw [hz2] at hoe; cases hoe; simp at hce
          exact wpAny_setField_rec hz2 (by simp) fun h₃ _ hs₃ => hE h₃ e (fun b o hb q => (hs₃.2 b (ad (by unfold Aside at hb; omega))).trans (hs₂ b o (ad (by unfold Aside at hb; omega)) (kp b o hb q))) ⟨oe, (hs₃.2 e hez).trans hoe, hce⟩
        | some x =>
          refine wpAny_bind (RZ.nextOf_tuple_item (s := { s with heap := h' }) hit htup (by rw [List.getElem?_toArray]; exact hx) fun h₂ hit₂ hs₂ => wpAny_pure ?_)
          have Z2 : Zs h₂ B ls .ellipsis f1 kept' (fun j => if j < k + 1 then i + 1 else i) := Zm.turn (pos' := fun j => if j < k + 1 then i + 1 else i) hrow (by rw [if_pos (Nat.lt_succ_self _)]; exact hit₂) hs₂ fun j hj => by
            by_cases h1 : j < k
            · rw [if_pos h1, if_pos (by omega)]
            · rw [if_neg h1, if_neg (by omega)]
          refine wpAny_bind (wpAny_seqItems Z2.to rfl ?_)
          refine wpAny_bind (wpAny_updateSeq Z2.to rfl ?_ (by rw [List.size_toArray, hkl, sizeLine_eq]; omega) (by rw [Array.size_setIfInBounds, List.size_toArray, hkl, sizeLine_eq]; omega))
          have hTO := Heap.get?_update_self (Obj.mapSeq (·.setIfInBounds k x)) Z2.to rfl
          have sb : Heap.SameBut (B + ls.length + 1) h₂ (h₂.update (B + ls.length + 1) (Obj.mapSeq (·.setIfInBounds k x))) := Heap.SameBut.update ..
          refine wpAny_bind (wpAny_letGo (wpAny_pure ⟨k + 1, _, kept'.set k x, rfl, hlt, rfl, rfl, by rw [List.length_set]; exact hkl, ?_, fun b o hb q => ?_, fun k' l' xs' hk' e => ?_⟩))
          · refine Z2.setTO (hTO.trans ?_) sb
            simp only [Obj.mapSeq, Array.size_setIfInBounds, beq_self_eq_true, if_true]
            rw [List.setIfInBounds_toArray]
          · exact (sb.2 b (ad (by unfold Aside at hb; omega))).trans ((hs₂.2 b (ad (by unfold Aside at hb; omega))).trans (kp b o hb q))
          · by_cases hkk : k' = k
            · subst hkk
              rw [hrow] at e
              cases e
              rw [hx]
              simp
            · exact hall k' l' xs' (by omega) e
      · rw [List.drop_eq_nil_of_le (by rw [List.length_zipIdx, refs_len]; omega)] at e1
        cases e1
    · rintro b s' ⟨m, h', kept', e1, hm, rfl, rfl, hkl, Zm, kp, hall⟩
      exfalso
      have hml : m = ls.length := by
        by_cases hlt : m < ls.length
        · have hzl : m < (refs B ls.length).zipIdx.length := by rw [List.length_zipIdx, refs_len]; exact hlt
          rw [List.drop_eq_getElem_cons hzl] at e1
          cases e1
        · omega
      subst hml
      obtain ⟨k, l, xs, hr, hx⟩ := hend
      exact hall k l xs (row_lt hr) hr hx
  · have own : wpAny (model prog w) A (Builtin.SmallTypes.ownedTupleIsFree (.ref (B + ls.length + 2))) (fun b s' => b = false ∧ ∃ h₁, s' = { s with heap := h₁ } ∧ Zs h₁ B ls (rawInt T) (.bool true) kept (fun _ => i) ∧ ∀ b o, Aside B ls.length b → s.heap.get? b = some o → h₁.get? b = some o) E s := by
      unfold Builtin.SmallTypes.ownedTupleIsFree
      refine wpAny_bind (wpAny_field Z.z rfl (x := rawInt T) rfl ?_)
      obtain ⟨oT, hoT⟩ := hT
      show wpAny _ _ (loadIfAlive (T : Int).toNat >>= _) _ _ _
      refine wpAny_bind (wpAny_alive ?_)
      rw [Int.toNat_natCast, hoT]
      rw [if_neg (show ¬ ((some oT).isNone = true) by simp)]
      refine wpAny_bind (wpAny_field Z.z rfl (x := f1) rfl ?_)
      rcases hf1 with rfl | rfl
      · show wpAny _ _ (setField _ 1 (.bool true) >>= _) _ _ _
        refine wpAny_bind (wpAny_setField_rec Z.z (by simp) fun h₁ hz₁ hs₁ => ?_)
        exact wpAny_pure ⟨rfl, h₁, rfl, Z.setZ hz₁ hs₁, fun b o hb q => (hs₁.2 b (ad (by unfold Aside at hb; omega))).trans q⟩
      · exact wpAny_pure ⟨rfl, s.heap, rfl, Z, fun _ _ _ q => q⟩
    refine wpAny_bind (wpAny_mono own (fun b s₁ hb => ?_) fun _ _ q => q)
    obtain ⟨rfl, h₁, rfl, Z1, kp1⟩ := hb
    dsimp only
    rw [if_neg (show ¬ (false = true) by decide)]
    refine wpAny_bind (MeetsSeq2.wpAny_forIn_array _ (fun rest b s' => ∃ (m : Nat) (h' : Heap) (its : Array Value), rest = (refs B ls.length).drop m ∧ m ≤ ls.length ∧ b = (none, its) ∧ s' = { s with heap := h' } ∧
      Zs h' B ls (rawInt T) (.bool true) kept (fun k => if k < m then i + 1 else i) ∧ (∀ b o, Aside B ls.length b → s.heap.get? b = some o → h'.get? b = some o) ∧ ∀ (k : Nat) (l : Nat) (xs : List Value), k < m → ls[k]? = some (l, xs) → xs[i]? ≠ none) _ ?_ ?_ _ _ ⟨0, h₁, #[], by simp, Nat.zero_le _, rfl, rfl, by simpa using Z1, kp1, fun k l xs z => by omega⟩)
    · rintro it rest b s' ⟨m, h', its, e1, hm, rfl, rfl, Zm, kp, hall⟩
      by_cases hlt : m < ls.length
      · have hzl : m < (refs B ls.length).length := by rw [refs_len]; exact hlt
        rw [List.drop_eq_getElem_cons hzl] at e1
        obtain ⟨e2, rfl⟩ := List.cons.inj e1
        have hg2 : (refs B ls.length)[m]'(by rw [refs_len]; exact hlt) = .ref (B + m) := (List.getElem?_eq_some_iff.mp (refs_get (B := B) hlt)).2
        rw [hg2] at e2
        subst e2
        obtain ⟨l, xs, hrow⟩ : ∃ l xs, ls[m]? = some (l, xs) := ⟨_, _, List.getElem?_eq_getElem hlt⟩
        obtain ⟨hit, htup, hlB⟩ := Zm.it m l xs hrow
        rw [if_neg (Nat.lt_irrefl _)] at hit
        refine wpAny_bind (wpAny_holding ?_)
        show wpAny _ _ (Builtin.SmallTypes.nextOf (.ref (B + m)) >>= _) _ _ _
        cases hx : xs[i]? with
        | none =>
          exact wpAny_bind (RZ.nextOf_tuple_end (s := { s with heap := h' }) hh hit htup (by rw [List.getElem?_toArray]; exact hx) fun h₂ e hs₂ he => hE h₂ e (fun b o hb q => hs₂ b o (ad (by unfold Aside at hb; omega)) (kp b o hb q)) he)
        | some x =>
          refine wpAny_bind (RZ.nextOf_tuple_item (s := { s with heap := h' }) hit htup (by rw [List.getElem?_toArray]; exact hx) fun h₂ hit₂ hs₂ => wpAny_pure ?_)
          have Z2 : Zs h₂ B ls (rawInt T) (.bool true) kept (fun j => if j < m + 1 then i + 1 else i) := Zm.turn (pos' := fun j => if j < m + 1 then i + 1 else i) hrow (by rw [if_pos (Nat.lt_succ_self _)]; exact hit₂) hs₂ fun j hj => by
            by_cases h1 : j < m
            · rw [if_pos h1, if_pos (by omega)]
            · rw [if_neg h1, if_neg (by omega)]
          refine wpAny_pure ⟨m + 1, h₂, its.push x, rfl, hlt, rfl, rfl, Z2, fun b o hb q => (hs₂.2 b (ad (by unfold Aside at hb; omega))).trans (kp b o hb q), fun k' l' xs' hk' e => ?_⟩
          by_cases hkk : k' = m
          · subst hkk
            rw [hrow] at e
            cases e
            rw [hx]
            simp
          · exact hall k' l' xs' (by omega) e
      · rw [List.drop_eq_nil_of_le (by rw [refs_len]; omega)] at e1
        cases e1
    · rintro b s' ⟨m, h', its, e1, hm, rfl, rfl, Zm, kp, hall⟩
      exfalso
      have hml : m = ls.length := by
        by_cases hlt : m < ls.length
        · have hzl : m < (refs B ls.length).length := by rw [refs_len]; exact hlt
          rw [List.drop_eq_getElem_cons hzl] at e1
          cases e1
        · omega
      subst hml
      obtain ⟨k, l, xs, hr, hx⟩ := hend
      exact hall k l xs (row_lt hr) hr hx
end
end ZN
/-! EvM4: tuple(zip(..)). -/
namespace ZN
open PySem
open PySem.Sem (wp)
section
variable {prog : Program} {w : World} {A : Around} {E : Value → Shared → Prop} {s : Shared} {B : Nat} {ls : Rows} {f0 f1 : Value} {kept : List Value} {pos : Nat → Nat} {h h' : Heap}
/-- the zip object ahead of its turn i -/
def At (h : Heap) (B : Nat) (ls : Rows) (i : Nat) : Prop := ∃ f0 f1 kept, Zs h B ls f0 f1 kept (fun _ => i) ∧ kept.length = ls.length ∧ (f0 = .none ∨ ∃ T : Nat, f0 = rawInt T ∧ Aside B ls.length T ∧ ∃ o, h.get? T = some o) ∧ (f1 = .bool false ∨ f1 = .bool true)
theorem At.typeIs {i : Nat} (x : At s.heap B ls i) : s.TypeIs (.ref (B + ls.length + 2)) "zip" := by
  obtain ⟨f0, f1, kept, Z, _⟩ := x
  exact ⟨_, Z.z, rfl⟩
theorem At.keeps {i : Nat} (x : At h B ls i) (k : ∀ b o, h.get? b = some o → h'.get? b = some o) : At h' B ls i := by
  obtain ⟨f0, f1, kept, Z, h1, h2, h3⟩ := x
  refine ⟨f0, f1, kept, Z.keeps k, h1, ?_, h3⟩
  rcases h2 with z | ⟨T, e, a, o, q⟩
  · exact .inl z
  · exact .inr ⟨T, e, a, o, k _ _ q⟩
theorem next_item {i : Nat} {xl : List Value} {Q : Option Value → Shared → Prop} (x : At s.heap B ls i) (hne : ls ≠ []) (hx : xl.length = ls.length) (hat : ∀ (k : Nat) (l : Nat) (xs : List Value), ls[k]? = some (l, xs) → xs[i]? = xl[k]?) (hn : ls.length ≤ 16777216)
    (hQ : ∀ h', At h' B ls (i + 1) → h'.get? s.heap.objs.size = some (tupO xl) → h'.objs.size = s.heap.objs.size + 1 → (∀ b o, Aside B ls.length b → s.heap.get? b = some o → h'.get? b = some o) → Q (some (.ref s.heap.objs.size)) { s with heap := h' }) :
    wpAny (model prog w) A (pyNext (.ref (B + ls.length + 2))) Q E s := by
  have hT := x.typeIs
  obtain ⟨f0, f1, kept, Z, h1, h2, h3⟩ := x
  have hlt : B + ls.length + 2 < s.heap.objs.size := Heap.lt_size Z.z
  unfold pyNext
  refine wpAny_bind (wpAny_attempt (wpAny_callSpecial?_slot (name := Str.ofString "__next__") hT F.slot_zip_next (wpAny_call_entry F.slot_zip_next hT F.entry_zip_next ?_ (F.args_zip_next_1 _))))
  rcases h2 with rfl | ⟨T, rfl, hTa, hTo⟩
  · exact next_fast Z hne h1 hx hat hn fun h' a1 a2 a3 a4 => wpAny_pure (hQ h' ⟨_, _, _, a1, hx, .inr ⟨s.heap.objs.size, rfl, .inr (by omega), _, a2⟩, .inl rfl⟩ a2 a3 a4)
  · refine next_slow Z hne hx hat hn hTo (fun h' a1 a2 a3 a4 => wpAny_pure (hQ h' ⟨_, _, _, a1, h1, .inr ⟨T, rfl, hTa, ?_⟩, .inr rfl⟩ a2 a3 a4)) h3
    obtain ⟨o, q⟩ := hTo
    exact ⟨o, a4 _ _ hTa q⟩
theorem next_stop {i : Nat} {Q : Option Value → Shared → Prop} (hh : A.handled = none) (x : At s.heap B ls i) (hne : ls ≠ []) (hn : ls.length ≤ 16777216) (hend : ∃ (k : Nat) (l : Nat) (xs : List Value), ls[k]? = some (l, xs) ∧ xs[i]? = none)
    (hQ : ∀ h', (∀ b o, Aside B ls.length b → s.heap.get? b = some o → h'.get? b = some o) → Q none { s with heap := h' }) : wpAny (model prog w) A (pyNext (.ref (B + ls.length + 2))) Q E s := by
  have hT := x.typeIs
  obtain ⟨f0, f1, kept, Z, h1, h2, h3⟩ := x
  unfold pyNext
  refine wpAny_bind (wpAny_attempt (wpAny_callSpecial?_slot (name := Str.ofString "__next__") hT F.slot_zip_next (wpAny_call_entry F.slot_zip_next hT F.entry_zip_next (next_end hh Z hne h1 hn ?_ h3 hend fun h' e hk he => ?_) (F.args_zip_next_1 _))))
  · rcases h2 with z | ⟨T, e, _, o, q⟩
    · exact .inl z
    · exact .inr ⟨T, e, o, q⟩
  · obtain ⟨o, ho, hc⟩ := he
    refine wpAny_bind (wpAny_isInstance (T := "StopIteration") (b := true) ⟨o, ho, hc⟩ isSubtype_stop ?_)
    exact wpAny_pure (hQ _ hk)
/-- the columns -/
structure Cols (ls : Rows) (col : Nat → List Value) (N : Nat) : Prop where
  len : ∀ j, j < N → (col j).length = ls.length
  at' : ∀ (j : Nat) (k : Nat) (l : Nat) (xs : List Value), j < N → ls[k]? = some (l, xs) → xs[j]? = (col j)[k]?
  stop : ∃ (k : Nat) (l : Nat) (xs : List Value), ls[k]? = some (l, xs) ∧ xs[N]? = none
/-- what is drawn so far: the tuples stand from base on -/
def Got (h : Heap) (base : Nat) (col : Nat → List Value) (acc : Array Value) (i : Nat) : Prop := acc.size = i ∧ ∀ j, j < i → acc[j]? = some (.ref (base + j)) ∧ h.get? (base + j) = some (tupO (col j))
variable {R : Result → Shared → Prop}
theorem loop {S base N : Nat} {col : Nat → List Value} {res : Value} (hh : A.handled = none) (hne : ls ≠ []) (hn : ls.length ≤ 16777216) (hc : Cols ls col N) (hN : N ≤ sizeLine) (hS : Aside B ls.length S) (hb : B + ls.length + 3 ≤ base) (hSb : S < base) :
    ∀ (k i : Nat) (s : Shared) (acc : Array Value) (c : Nat), N - i = k → i ≤ N → At s.heap B ls i → s.heap.get? S = some { cls := .type "list", dict := none, data := .seq acc c, slots := #[] } → s.heap.objs.size = base + i → Got s.heap base col acc i →
    (∀ h' acc' c', (∀ b o, b ≠ S → Aside B ls.length b → s.heap.get? b = some o → h'.get? b = some o) → h'.get? S = some { cls := .type "list", dict := none, data := .seq acc' c', slots := #[] } → Got h' base col acc' N → R (.ok (.ret res)) { s with heap := h' }) →
    codeAny (model prog w) A (.builtin "list.extend.loop" ⟨[.ref S, .ref (B + ls.length + 2), res], []⟩) R s := by
  intro k
  induction k with
  | zero =>
    intro i s acc c hk hi x hSs hbs hg hR
    have hin : i = N := by omega
    subst hin
    refine codeAny_builtin F.entry_extend_loop ?_
    rw [Around.under_plainId F.plain_extend_loop _]
    show wpAny _ A.in1 (pyNext (.ref (B + ls.length + 2)) >>= _) _ _ s
    refine wpAny_bind (next_stop (A := A.in1) hh x hne hn hc.stop fun h' kp => ?_)
    refine wpAny_pure (hR h' acc c (fun b o _ hb q => kp b o hb q) (kp _ _ hS hSs) ⟨hg.1, fun j hj => ?_⟩)
    obtain ⟨h1, h4⟩ := hg.2 j hj
    exact ⟨h1, kp _ _ (.inr (by omega)) h4⟩
  | succ k ih =>
    intro i s acc c hk hi x hSs hbs hg hR
    have hlt : i < N := by omega
    refine codeAny_builtin F.entry_extend_loop ?_
    rw [Around.under_plainId F.plain_extend_loop _]
    show wpAny _ A.in1 (pyNext (.ref (B + ls.length + 2)) >>= _) _ _ s
    refine wpAny_bind (next_item (A := A.in1) x hne (hc.len i hlt) (fun k l xs e => hc.at' i k l xs hlt e) hn fun h' x' gT sz kp => ?_)
    have hS' := kp _ _ hS hSs
    show wpAny _ A.in1 (updateSeq S (·.push (.ref s.heap.objs.size)) >>= _) _ _ _
    refine wpAny_bind ?_
    have hne' : ∀ b, b ≠ S → (h'.update S (Obj.mapSeq (·.push (Value.ref s.heap.objs.size)))).get? b = h'.get? b := fun b hb => Heap.get?_update_other _ _ (fun z => hb z.symm)
    refine wpAny_updateSeq hS' rfl (wpAny_pure ⟨plainId_quiet F.plain_extend_loop _, ih (i + 1) _ (acc.push (.ref s.heap.objs.size)) _ (by omega) hlt ?_ (Heap.get?_update_self _ hS' rfl) ?_ ?_ fun h'' acc' c' kp'' hS'' hg' => ?_⟩)
      (by rw [hg.1]; omega) (by show (acc.push (.ref s.heap.objs.size)).size ≤ sizeLine + 1; rw [Array.size_push, hg.1]; omega)
    · -- the zip object is not the list
      obtain ⟨f0, f1, kept, Z, q1, q2, q3⟩ := x'
      have nS : ∀ b : Nat, B ≤ b → b < B + ls.length + 3 → b ≠ S := fun b b1 b2 z => by unfold Aside at hS; omega
      refine ⟨f0, f1, kept, ⟨?_, ?_, ?_, fun j l xs e => ?_⟩, q1, ?_, q3⟩
      · exact (hne' _ (nS _ (by omega) (by omega))).trans Z.z
      · exact (hne' _ (nS _ (by omega) (by omega))).trans Z.ti
      · exact (hne' _ (nS _ (by omega) (by omega))).trans Z.to
      · obtain ⟨a1, a2, a3⟩ := Z.it j l xs e
        have hj := row_lt e
        refine ⟨a1.at fun o q => (hne' _ (nS _ (by omega) (by omega))).trans q, a2.at fun o q => (hne' _ fun z => ?_).trans q, a3⟩
        obtain ⟨o2, q2, hcl, _⟩ := a2
        rw [z, hS'] at q2
        cases q2
        exact absurd (Value.type.inj hcl) (by decide)
      · rcases q2 with z | ⟨T, e, a, o, q⟩
        · exact .inl z
        · refine .inr ⟨T, e, a, ?_⟩
          by_cases hTS : T = S
          · subst hTS; exact ⟨_, Heap.get?_update_self _ hS' rfl⟩
          · exact ⟨o, (hne' _ hTS).trans q⟩
    · show (h'.update S _).objs.size = base + (i + 1)
      have : (h'.update S (Obj.mapSeq (·.push (Value.ref s.heap.objs.size)))).objs.size = h'.objs.size := (Heap.SameBut.update ..).1
      rw [this, sz]; omega
    · refine ⟨by rw [Array.size_push, hg.1], fun j hj => ?_⟩
      by_cases hji : j = i
      · subst hji
        refine ⟨?_, ?_⟩
        · rw [← hbs]
          rw [← hg.1, Array.getElem?_push_size]
        · rw [← hbs]
          exact (hne' _ (by omega)).trans gT
      · obtain ⟨h1, h4⟩ := hg.2 j (by omega)
        exact ⟨by rw [Array.getElem?_push, if_neg (by rw [hg.1]; exact hji)]; exact h1, (hne' _ (ad (by omega))).trans (kp _ _ (.inr (by omega)) h4)⟩
    · refine hR h'' acc' c' (fun b o hb1 hb2 q => kp'' b o hb1 hb2 ((hne' _ hb1).trans (kp b o hb2 q))) hS'' hg'
theorem nolen_zip : typeLookup (.type "zip") "__len__" = pure none := by rw [typeLookup_type, builtinLookup_eq_fast]; kernel_rfl
theorem nohint_zip : typeLookup (.type "zip") "__length_hint__" = pure none := by rw [typeLookup_type, builtinLookup_eq_fast]; kernel_rfl
theorem collect_zip {N : Nat} {col : Nat → List Value} {Q : List Value → Shared → Prop} (hh : A.handled = none) (hne : ls ≠ []) (hn : ls.length ≤ 16777216) (hc : Cols ls col N) (hN : N ≤ sizeLine) (Z : Zs s.heap B ls .none (.bool false) kept (fun _ => 0)) (hk : kept.length = ls.length)
    (hQ : ∀ (h' : Heap) (acc : Array Value), (∀ b o, Aside B ls.length b → s.heap.get? b = some o → h'.get? b = some o) → Got h' (s.heap.objs.size + 1) col acc N → Q acc.toList { s with heap := h' }) :
    wpAny (model prog w) A (collect (.ref (B + ls.length + 2))) Q E s := by
  have hlt : B + ls.length + 2 < s.heap.objs.size := Heap.lt_size Z.z
  have hSI : s.heap.objs.size ≠ B + ls.length + 2 := by omega
  have hSa : Aside B ls.length s.heap.objs.size := .inr (by omega)
  unfold collect
  refine wpAny_bind (wpAny_runValue (codeAny_builtin F.entry_proto_collect ?_))
  rw [Around.under_plainId F.plain_proto_collect _]
  show wpAny _ A.in1 (newList [] >>= fun l => again (.builtin "list.__iadd__" ⟨[l, .ref (B + ls.length + 2)], []⟩)) _ _ s
  refine wpAny_bind (wpAny_newObj_type ?_)
  refine wpAny_pure ⟨plainId_quiet F.plain_list_iadd _, codeAny_builtin F.entry_list_iadd ?_⟩
  rw [Around.under_plainId F.plain_list_iadd _]
  have Z1 := Z.keeps (h' := s.heap.push { cls := .type "list", data := .seq ([] : List Value).toArray }) fun b o q => Heap.get?_push_of_some _ q
  have hT : ({ s with heap := s.heap.push { cls := .type "list", data := .seq ([] : List Value).toArray } } : Shared).TypeIs (.ref (B + ls.length + 2)) "zip" := ⟨_, Z1.z, rfl⟩
  show wpAny _ A.in1 (Builtin.List.listExtendWith (.ref s.heap.objs.size) (.ref (B + ls.length + 2)) (.ref s.heap.objs.size)) _ _ _
  unfold Builtin.List.listExtendWith
  refine wpAny_bind (wpAny_typeOf hT ?_)
  have h1 : Builtin.List.listSameRef (.ref s.heap.objs.size) (.ref (B + ls.length + 2)) = false := by
    have : ¬ (s.heap.objs.size = B + ls.length + 2) := hSI
    simp [Builtin.List.listSameRef, this]
  have h2 : (Value.type "zip" == Value.type "list") = false := by decide
  have h3 : (Value.type "zip" == Value.type "tuple") = false := by decide
  simp only [h1, h2, h3, Bool.or_false, Bool.false_eq_true, if_false]
  refine wpAny_bind (wpAny_pyIter_zip (s := { s with heap := s.heap.push { cls := .type "list", data := .seq ([] : List Value).toArray } }) Z1.z ?_)
  refine wpAny_bind (wpAny_holding ?_)
  unfold Builtin.List.listLengthHint
  refine wpAny_bind (wpAny_specialOf hT nolen_zip ?_)
  show wpAny _ A.in1 (specialOf (Value.ref (B + ls.length + 2)) (Str.ofString "__length_hint__") >>= _) _ _ _
  refine wpAny_bind (wpAny_specialOf hT nohint_zip ?_)
  refine wpAny_pure ?_
  show wpAny _ A.in1 (rule "list.extend.makes-room" >>= fun _ => Builtin.List.listTouch (.ref s.heap.objs.size) >>= fun _ =>
    again (.builtin "list.extend.loop" ⟨[.ref s.heap.objs.size, .ref (B + ls.length + 2), .ref s.heap.objs.size], []⟩)) _ _ _
  refine wpAny_bind (wpAny_rule ?_)
  have hS₁ : (s.heap.push { cls := .type "list", data := .seq ([] : List Value).toArray }).get? s.heap.objs.size = some { cls := .type "list", data := .seq ([] : List Value).toArray } := Heap.get?_push_size _ rfl
  refine wpAny_bind ?_
  show wpAny _ A.in1 (updateSeq s.heap.objs.size (·.push .none) >>= fun _ => updateSeq s.heap.objs.size (·.pop)) _ _ _
  refine wpAny_bind (wpAny_updateSeq hS₁ rfl ?_)
  have hS₂ := Heap.get?_update_self (Obj.mapSeq (·.push Value.none)) hS₁ rfl
  refine wpAny_updateSeq hS₂ rfl ?_
  have hS₃ := Heap.get?_update_self (Obj.mapSeq (·.pop)) hS₂ rfl
  have oth : ∀ b o, s.heap.get? b = some o → (((s.heap.push { cls := .type "list", data := .seq ([] : List Value).toArray }).update s.heap.objs.size (Obj.mapSeq (·.push Value.none))).update s.heap.objs.size (Obj.mapSeq (·.pop))).get? b = some o := fun b o e => by
    have hb : s.heap.objs.size ≠ b := Nat.ne_of_gt (Heap.lt_size e)
    exact (Heap.get?_update_other _ _ hb).trans ((Heap.get?_update_other _ _ hb).trans (Heap.get?_push_of_some _ e))
  have Z3 := Z.keeps (h' := ((s.heap.push { cls := .type "list", data := .seq ([] : List Value).toArray }).update s.heap.objs.size (Obj.mapSeq (·.push Value.none))).update s.heap.objs.size (Obj.mapSeq (·.pop))) oth
  have sz3 : (((s.heap.push { cls := .type "list", data := .seq ([] : List Value).toArray }).update s.heap.objs.size (Obj.mapSeq (·.push Value.none))).update s.heap.objs.size (Obj.mapSeq (·.pop))).objs.size = s.heap.objs.size + 1 := by
    have e1 : (((s.heap.push { cls := .type "list", data := .seq ([] : List Value).toArray }).update s.heap.objs.size (Obj.mapSeq (·.push Value.none))).update s.heap.objs.size (Obj.mapSeq (·.pop))).objs.size = ((s.heap.push { cls := .type "list", data := .seq ([] : List Value).toArray }).update s.heap.objs.size (Obj.mapSeq (·.push Value.none))).objs.size := (Heap.SameBut.update ..).1
    have e2 : ((s.heap.push { cls := .type "list", data := .seq ([] : List Value).toArray }).update s.heap.objs.size (Obj.mapSeq (·.push Value.none))).objs.size = (s.heap.push { cls := .type "list", data := .seq ([] : List Value).toArray }).objs.size := (Heap.SameBut.update ..).1
    rw [e1, e2, Heap.size_push]
  refine wpAny_pure ⟨plainId_quiet F.plain_extend_loop _, loop (A := A) (base := s.heap.objs.size + 1) hh hne hn hc hN hSa (by omega) (Nat.lt_succ_self _) N 0 { s with heap := ((s.heap.push { cls := .type "list", data := .seq ([] : List Value).toArray }).update s.heap.objs.size (Obj.mapSeq (·.push Value.none))).update s.heap.objs.size (Obj.mapSeq (·.pop)) } _ _ rfl (Nat.zero_le _) ⟨_, _, _, Z3, hk, .inl rfl, .inl rfl⟩ hS₃ sz3 ⟨rfl, fun j hj => by omega⟩ fun h' acc' c' kp hS' hg => ?_⟩
  show wpAny _ A (load s.heap.objs.size >>= _) _ _ _
  refine wpAny_bind (wpAny_load hS' ?_)
  refine wpAny_pure (hQ h' acc' (fun b o hb e => kp b o (ad (Nat.ne_of_lt (Heap.lt_size e))) hb (oth b o e)) hg)
end
end ZN
/-! EvM5: tuple(zip(..)), called. -/
namespace ZN
open PySem
open PySem.Sem (wp)
section
variable {prog : Program} {w : World} {A : Around} {E : Value → Shared → Prop} {s : Shared} {B : Nat} {ls : Rows} {kept : List Value}
theorem code_tuple_zip {N : Nat} {col : Nat → List Value} {Q₁ : Value → Shared → Prop} (hh : A.handled = none) (hne : ls ≠ []) (hn : ls.length ≤ 16777216) (hc : Cols ls col N) (hN : N ≤ sizeLine) (Z : Zs s.heap B ls .none (.bool false) kept (fun _ => 0)) (hk : kept.length = ls.length)
    (h : ∀ (h' : Heap) (acc : Array Value), (∀ b o, Aside B ls.length b → s.heap.get? b = some o → h'.get? b = some o) → Got h' (s.heap.objs.size + 1) col acc N →
      Q₁ (.ref h'.objs.size) { s with heap := h'.push { cls := .type "tuple", data := .seq acc } }) :
    codeAny (model prog w) A (.call (.builtin "tuple.__new__") ⟨[.type "tuple", .ref (B + ls.length + 2)], []⟩) (wants Q₁ E) s := by
  refine codeAny_of_tree ?_
  show wpAny _ A.in1 (do checkBuiltinCall "tuple.__new__" ⟨[.type "tuple", .ref (B + ls.length + 2)], []⟩; again (.builtin "tuple.__new__" ⟨[.type "tuple", .ref (B + ls.length + 2)], []⟩)) _ _ s
  refine wpAny_bind (wpAny_of_eq (F.newCall_tuple_1 _) (wpAny_pure ⟨plainId_quiet F.plain_tuple_new _, codeAny_builtin F.entry_tuple_new ?_⟩))
  rw [Around.under_plainId F.plain_tuple_new _]
  have hsub := sub_tuple_self
  have hinit := init_tuple_lookup
  have hmh := madeHere_tuple
  have hTI : s.TypeIs (.ref (B + ls.length + 2)) "zip" := ⟨_, Z.z, rfl⟩
  have hh1 : A.in1.handled = none := hh
  wp_walk using wpAny_typeOf hTI, collect_zip (A := A.in1) hh1 hne hn hc hN Z hk
  intro h' acc kp hacc
  show wpAny _ _ (Builtin.Tuple.tupleExact acc.toList.toArray >>= fun v => ret v) _ _ _
  unfold Builtin.Tuple.tupleExact
  refine wpAny_bind (wpAny_newObj_type ?_ (by show acc.toList.toArray.size ≤ sizeLine; simp only [Array.toArray_toList]; rw [hacc.1]; exact hN))
  refine wpAny_pure ?_
  have e : acc.toList.toArray = acc := by simp
  rw [e]
  exact h h' acc kp hacc
theorem call_tuple_zip {N : Nat} {col : Nat → List Value} {Q : Value → Shared → Prop} (hh : A.handled = none) (hne : ls ≠ []) (hn : ls.length ≤ 16777216) (hc : Cols ls col N) (hN : N ≤ sizeLine) (Z : Zs s.heap B ls .none (.bool false) kept (fun _ => 0)) (hk : kept.length = ls.length)
    (hQ : ∀ (h' : Heap) (acc : Array Value), (∀ b o, Aside B ls.length b → s.heap.get? b = some o → h'.get? b = some o) → Got h' (s.heap.objs.size + 1) col acc N →
      Q (.ref h'.objs.size) { s with heap := h'.push { cls := .type "tuple", data := .seq acc } }) :
    wpAny (model prog w) A (call (.type "tuple") [.ref (B + ls.length + 2)]) Q E s := by
  refine callType_codes (Q₁ := fun obj s₁ => s₁.TypeIs obj "tuple" ∧ Q obj s₁) F.called_tuple (F.typeCall_tuple_1 _) F.entry_object_init
    (code_tuple_zip (A := A.in1) hh hne hn hc hN Z hk fun h' acc kp hacc => ⟨⟨_, Heap.get?_push_size _ rfl, rfl⟩, hQ h' acc kp hacc⟩) fun obj s₁ h₁ => ?_
  exact ⟨h₁.1, F.args_object_init_2 obj _, object_init_meets F.called_tuple.init.lookup F.called_tuple.made (by decide) prog w A.in1 _ s₁ ⟨h₁.1, rfl, h₁.2⟩⟩
/-- T(*x), T a built-in type -/
theorem callWith_typeS {M : Model} {T : String} {pos : Pos} {x : Sem Value} {Q : Value → Shared → Prop} (h : wpAny M A x (fun v s₁ => PySem.W.StarOf M A E v (fun vs s₂ => wpAny M A (call (.type T) vs) Q E s₂) s₁) E s) :
    wpAny M A (callWith pos (.type T) [] [(true, (do let v ← x; standAt pos; pure v))] []) Q E s := by
  unfold callWith
  refine wpAny_bind (wpAny_holding (wpAny_mono (PySem.W.ks_lone (Q := fun a s₁ => a.kw = [] ∧ wpAny M A (call (.type T) a.pos) Q E s₁) (wpAny_mono h (fun v s₁ h₁ => ?_) fun _ _ q => q)) (fun a s₁ h₁ => wpAny_bind (wpAny_standAt ?_)) fun _ _ q => q))
  · unfold PySem.W.StarOf at h₁ ⊢
    exact wpAny_mono h₁ (fun b s₂ ⟨hb, h₂⟩ => ⟨hb, wpAny_mono h₂ (fun vs s₃ h₃ => ⟨rfl, h₃⟩) fun _ _ q => q⟩) fun _ _ q => q
  · obtain ⟨ekw, h₂⟩ := h₁
    obtain ⟨ap, ak⟩ := a
    have ekw : ak = [] := ekw
    subst ekw
    have z : wpAny M A (operate (Value.type T :: (ap.reverse ++ [])) (call (.type T) ap [])) Q E s₁ := wpAny_operating h₂
    refine wpAny_bind (wpAny_pure ?_)
    refine wpAny_bind (wpAny_mono z (fun r s₂ hr => wpAny_bind (wpAny_holding (wpAny_point (wpAny_pure hr)))) fun _ _ q => q)
end
end ZN
/-! EvM6: tuple(zip(*x)) is read rightly. -/
namespace Ev
open PySem PySem.Spec PyProof.Rows
open L2 (V HO Hp Cx Inv PE PT PA PS PSs PG PGs PI PW PO PK PTs RelV Vals upd upd_same upd_ne SqL SqT TE TT TA TS TG TGs TI TO WX XK VK Room Takes EP FpOk Ends Un UB HOk ObjOk Env0)
section
variable {Z : Zx} {cs : List Nat} {W : WX} {X : Cx} {σ σ' : L2.St} {g g1 g2 g3 : Gh} {H H1 H2 H3 : Hp} {s s1 s2 s3 s4 s' : S} {en en' : Env} {α β : Type} {K : PySem.W.Frag} {d n : Nat} {C : Ctx} {φ : List Addr}
def getR (j : Nat) (r : List D) : D := r.getD j .non
theorem colsF_is : ∀ (f : Nat) (rows : List (List D)) (r0 : List D) (rest : List (List D)), rows = r0 :: rest → r0.length = f →
    (∀ j, j < (colsF f rows).length → (colsF f rows)[j]? = some (rows.map (getR j)) ∧ ∀ r ∈ rows, j < r.length) ∧ ∃ r ∈ rows, r.length ≤ (colsF f rows).length
  | 0, rows, r0, rest, h, hl => by
    unfold colsF
    refine ⟨fun j hj => absurd hj (Nat.not_lt_zero _), r0, by rw [h]; exact List.mem_cons_self, by rw [hl]; exact Nat.zero_le _⟩
  | f + 1, rows, r0, rest, h, hl => by
    unfold colsF
    cases ha : rows.any (·.isEmpty) with
    | true =>
      obtain ⟨r, h1, h2⟩ := List.any_eq_true.mp ha
      refine ⟨fun j hj => absurd hj (Nat.not_lt_zero _), r, h1, ?_⟩
      rw [List.isEmpty_iff.mp h2]
      exact Nat.zero_le _
    | false =>
      have hne : ∀ r ∈ rows, 0 < r.length := fun r hr => by
        have := List.any_eq_false.mp ha r hr
        cases r with
        | nil => exact absurd rfl this
        | cons a l => exact Nat.succ_pos _
      obtain ⟨i1, r, i2, i3⟩ := colsF_is f (rows.map (·.tailD [])) (r0.tailD []) (rest.map (·.tailD [])) (by rw [h]; rfl) (by
        have := hne r0 (by rw [h]; exact List.mem_cons_self)
        cases r0 with
        | nil => cases this
        | cons a l => simpa using hl)
      have tl : ∀ r ∈ rows, ∀ j, getR j (r.tailD []) = getR (j + 1) r ∧ (r.tailD []).length + 1 = r.length := fun r hr j => by
        have := hne r hr
        cases r with
        | nil => cases this
        | cons a l => exact ⟨rfl, rfl⟩
      simp only [cond_false]
      refine ⟨fun j hj => ?_, ?_⟩
      · cases j with
        | zero =>
          refine ⟨?_, hne⟩
          rw [List.getElem?_cons_zero]
          refine congrArg some (List.map_congr_left fun r hr => ?_)
          have := hne r hr
          cases r with
          | nil => cases this
          | cons a l => rfl
        | succ j =>
          obtain ⟨k1, k2⟩ := i1 j (by simpa using hj)
          refine ⟨?_, fun r hr => ?_⟩
          · rw [List.getElem?_cons_succ, k1, List.map_map]
            exact congrArg some (List.map_congr_left fun r hr => (tl r hr j).1)
          · have := k2 (r.tailD []) (List.mem_map.mpr ⟨r, hr, rfl⟩)
            have := (tl r hr j).2
            omega
      · obtain ⟨r', h1, rfl⟩ := List.mem_map.mp i2
        refine ⟨r', h1, ?_⟩
        have := (tl r' h1 0).2
        simp only [List.length_cons]
        omega
theorem cols_is {rows : List (List D)} (h : rows ≠ []) : (∀ j, j < (cols rows).length → (cols rows)[j]? = some (rows.map (getR j)) ∧ ∀ r ∈ rows, j < r.length) ∧ ∃ r ∈ rows, r.length ≤ (cols rows).length := by
  cases rows with
  | nil => exact absurd rfl h
  | cons r rs => exact colsF_is r.length (r :: rs) r rs rfl rfl
/-- the rows as they stand in the heap -/
theorem rows_of {pins : List (Addr × Obj)} {s0 : Shared} (I : Inv X pins σ H s0) : ∀ {items : List D} {vs : List V} {us : List Value} {rs : List (List D)}, tupsOf items = some rs → Reps φ H items vs → Vals vs us →
    ∃ (ls : ZN.Rows) (rvs : List (List V)), us = ls.map (fun r => Value.ref r.1) ∧ ls.length = rs.length ∧ rvs.length = rs.length ∧ ∀ (k : Nat) (l : Nat) (xs : List Value), ls[k]? = some (l, xs) → ∃ r rv, rs[k]? = some r ∧ rvs[k]? = some rv ∧ Reps φ H r rv ∧ Vals rv xs ∧ s0.heap.IsTuple l xs.toArray
  | [], vs, us, rs, ht, hr, hv => by
    cases ht
    rw [hr.nil_of] at hv
    cases hv
    exact ⟨[], [], rfl, rfl, rfl, fun k l xs e => by simp at e⟩
  | x :: items, vs, us, rs, ht, hr, hv => by
    cases x with
    | tup row =>
      simp only [tupsOf] at ht
      cases h1 : tupsOf items with
      | none => rw [h1] at ht; cases ht
      | some rs' =>
        rw [h1] at ht
        cases ht
        obtain ⟨v, vs', rfl, h2, h3⟩ := hr.cons_of
        cases hv with
        | cons ru rus =>
          rename_i u us'
          obtain ⟨ls, rvs, e1, e2, e3, e4⟩ := rows_of I h1 h3 rus
          obtain ⟨a, rv, rfl, h4, h5⟩ := rep_tup h2
          have ru : u = Value.ref a := ru
          subst ru
          obtain ⟨_, its, h6, h7⟩ := I.hok a _ h4
          refine ⟨(a, its) :: ls, rv :: rvs, by rw [e1]; rfl, by simp [e2], by simp [e3], fun k l xs e => ?_⟩
          cases k with
          | zero =>
            simp at e
            obtain ⟨rfl, rfl⟩ := e
            exact ⟨row, rv, rfl, rfl, h5, h6, show s0.heap.IsTuple a its.toArray from h7⟩
          | succ k =>
            obtain ⟨r, rv', k1, k2, k3⟩ := e4 k l xs (by simpa using e)
            exact ⟨r, rv', by simpa using k1, by simpa using k2, k3⟩
    | _ => cases ht
theorem reps_map {f : List D → D} {gv : List V → V} : ∀ {rs : List (List D)} {rvs : List (List V)}, rs.length = rvs.length → (∀ (k : Nat) (r : List D) (rv : List V), rs[k]? = some r → rvs[k]? = some rv → Rep φ H (f r) (gv rv)) → Reps φ H (rs.map f) (rvs.map gv)
  | [], [], _, _ => reps_nil
  | [], _ :: _, h, _ => by simp at h
  | _ :: _, [], h, _ => by simp at h
  | r :: rs, rv :: rvs, h, hh => reps_cons (hh 0 r rv rfl rfl) (reps_map (by simpa using h) fun k r' rv' e1 e2 => hh (k + 1) r' rv' (by simpa using e1) (by simpa using e2))
theorem vals_map {f : List V → V} {gv : Nat × List Value → Value} : ∀ {rvs : List (List V)} {ls : ZN.Rows}, rvs.length = ls.length → (∀ (k : Nat) (rv : List V) (l : Nat × List Value), rvs[k]? = some rv → ls[k]? = some l → RelV (f rv) (gv l)) → Vals (rvs.map f) (ls.map gv)
  | [], [], _, _ => .nil
  | [], _ :: _, h, _ => by simp at h
  | _ :: _, [], h, _ => by simp at h
  | r :: rs, rv :: rvs, h, hh => .cons (hh 0 r rv rfl rfl) (vals_map (by simpa using h) fun k r' rv' e1 e2 => hh (k + 1) r' rv' (by simpa using e1) (by simpa using e2))
theorem reps_tups {H : Hp} {base : Nat} {f : Nat → List D} {cv : Nat → List V} : ∀ {N : Nat} {j : Nat}, (∀ i, i < N → H (base + (j + i)) = some (.tup (cv (j + i))) ∧ Reps φ H (f (j + i)) (cv (j + i))) → Reps φ H ((List.range' j N).map fun i => .tup (f i)) ((List.range' j N).map fun i => V.ref (base + i))
  | 0, _, _ => reps_nil
  | N + 1, j, h => by
    rw [List.range'_succ, List.map_cons, List.map_cons]
    obtain ⟨h1, h2⟩ := h 0 (Nat.succ_pos _)
    rw [Nat.add_zero] at h1 h2
    refine reps_cons (Rep.tup h1 h2) (reps_tups (f := f) (cv := cv) fun i hi => ?_)
    have := h (i + 1) (Nat.succ_lt_succ hi)
    have e : j + (i + 1) = j + 1 + i := by omega
    rw [e] at this
    exact this
theorem zip_pe (G : Gd Z d C X) {a : Expr} {f : Env → S → R D} {p p2 sp p3 pos : Pos} (pe : PE X a (tEv Z C.cs X W f)) (gz : L2.Gl X "zip") (mz : X.mg "zip" = none) (gt : L2.Gl X "tuple") (mt : X.mg "tuple" = none) :
    PE X (.Call (.Name "tuple" p) [.Call (.Name "zip" p2) [.Starred a sp] [] p3] [] pos) (tEv Z C.cs X W fun en s => (f en s).bind fun w s => zipTW s w) := by
  refine ⟨fun pins s0 σ H Q I ⟨g, en, s, r, e, q⟩ => ?_⟩
  refine PyProof.Rows.Call_ (L2.ld_blt I gt mt PyProof.Rows.boot_tuple (PyProof.Rows.callWith_type1 ?_))
  refine Calls.spliced_cons ?_
  refine PyProof.Rows.Call_ (L2.ld_blt I gz mz PyProof.Rows.boot_zip (ZN.callWith_typeS ?_))
  refine L2.thn (pe.run pins s0 σ H _ I (tEv_seq r e q fun v H1 x s1 g1 r1 e1 a1 hx q1 => show ∃ x g1 s1, RelS Z g1 H1 s1 ∧ Rep g1.φ H1 x v ∧ Fin Z W σ g1 H1 s1 (zipTW s1 x) (KV Q) from ⟨x, g1, s1, r1, hx, q1⟩)) fun u sh ⟨v, H1, I1, rv, x, g1, s1, r1, hx, q1⟩ => ?_
  unfold zipTW rowsW at q1
  cases hs : seqOf s1 x with
  | none => simp only [hs] at q1; exact q1.elim
  | some bp =>
    obtain ⟨b, items⟩ := bp
    simp only [hs] at q1
    cases ht : tupsOf items with
    | none => simp only [ht] at q1; exact q1.elim
    | some rs0 =>
      cases rs0 with
      | nil => simp only [ht] at q1; exact q1.elim
      | cons r0 rs =>
        simp only [ht] at q1
        obtain ⟨av, vs, rfl, hvs, hL, hT⟩ := seqOf_is (K := X.K) r1 hs hx
        have ru : u = Value.ref av := rv
        subst ru
        have hseq : SqT X.K H1 av vs ∨ SqL X.K H1 av vs := by
          cases b with
          | true => exact .inl (.inl (.inl (hT rfl)))
          | false => exact .inr (hL rfl)
        refine StX.star_any I1 hseq fun us s2 I2 rus => ?_
        obtain ⟨ls, rvs, e1, e2, e3, e4⟩ := rows_of I2 ht hvs rus
        unfold newT at q1
        obtain ⟨hline, q1⟩ := fin_guard q1
        have hN : (cols (r0 :: rs)).length ≤ sizeLine := by have := okLine_le hline; rw [List.length_map] at this; exact this
        obtain ⟨c1, rz, c2, c3⟩ := cols_is (rows := r0 :: rs) (by simp)
        obtain ⟨N, hNe⟩ : ∃ N, N = (cols (r0 :: rs)).length := ⟨_, rfl⟩
        rw [← hNe] at hN c1 c3
        have hlen : ls.length = (r0 :: rs).length := e2
        have hne : ls ≠ [] := fun z => by rw [z] at hlen; simp at hlen
        have rowLen : ∀ (k : Nat) (l : Nat) (xs : List Value), ls[k]? = some (l, xs) → ∃ rr, (r0 :: rs)[k]? = some rr ∧ rr.length = xs.length := fun k l xs e => by
          obtain ⟨rr, rv', k1, k2, k3, k4, k5⟩ := e4 k l xs e
          exact ⟨rr, k1, by rw [k3.len, k4.length]⟩
        have hc : ZN.Cols ls (fun j => ls.map fun l => l.2.getD j .none) N := ⟨fun j _ => by rw [List.length_map], fun j k l xs hj e => by
            obtain ⟨rr, k1, k2⟩ := rowLen k l xs e
            have := (c1 j hj).2 rr (List.mem_of_getElem? k1)
            rw [List.getElem?_map, e]
            show xs[j]? = some (xs.getD j .none)
            rw [List.getD_eq_getElem?_getD, List.getElem?_eq_getElem (by omega)] <;> rfl, by
            obtain ⟨k, hk, hkr⟩ := List.getElem_of_mem c2
            have hk' : k < ls.length := by rw [hlen]; exact hk
            obtain ⟨rr, k1, k2⟩ := rowLen k ls[k].1 ls[k].2 (List.getElem?_eq_getElem hk')
            rw [List.getElem?_eq_getElem hk] at k1
            cases k1
            exact ⟨k, _, _, List.getElem?_eq_getElem hk', List.getElem?_eq_none_iff.mpr (by show ls[k].2.length ≤ N; rw [← k2, hkr]; exact c3)⟩⟩
        have hn : ls.length ≤ 16777216 := by
          have h1 : us.length = ls.length := by rw [e1, List.length_map]
          have h2 : vs.length ≤ sizeLine := by
            rcases hseq with z | z
            · obtain ⟨_, _, _, z⟩ := I1.tuple z; exact z
            · obtain ⟨_, _, _, z⟩ := I1.list z; exact z
          rw [sizeLine_eq] at h2
          have := rus.length
          omega
        have hhd : ls = (ls.head hne) :: ls.tail := (List.cons_head_tail hne).symm
        rw [e1]
        refine ZN.make (ls := ls) (a := (ls.head hne).1) (xs := (ls.head hne).2) hhd (fun k l xs e => by
          obtain ⟨_, _, _, _, _, _, z⟩ := e4 k l xs e
          exact z) hn fun h1 Z1 sz1 kp1 => ?_
        refine Calls.spliced_nil ?_
        show wpAny (model X.prog X.w) X.A (call (.type "tuple") [.ref (s2.heap.objs.size + ls.length + 2)]) _ _ _
        refine ZN.call_tuple_zip (s := { s2 with heap := h1 }) (I.ok.hd G.calm) hne hn hc hN Z1 (by rw [List.length_replicate]) fun h' acc kp got => ?_
        have old : ∀ b o, s2.heap.get? b = some o → h'.get? b = some o := fun b o z => kp b o (.inl (Heap.lt_size z)) (kp1 b o z)
        obtain ⟨base, hbase⟩ : ∃ base : Nat, base = h1.objs.size + 1 := ⟨_, rfl⟩
        have got : ZN.Got h' base (fun j => ls.map fun l => l.2.getD j .none) acc N := by rw [hbase]; exact got
        have hb2 : s2.heap.objs.size < base := by rw [hbase, sz1]; omega
        obtain ⟨colV, hcolV⟩ : ∃ colV : Nat → List V, colV = fun j => rvs.map (fun rv => rv.getD j .non) := ⟨_, rfl⟩
        obtain ⟨P0, hP0⟩ : ∃ P0 : Nat, P0 = h'.objs.size := ⟨_, rfl⟩
        have lt' : ∀ j, j < N → base + j < P0 := fun j hj => by rw [hP0]; exact Heap.lt_size (got.2 j hj).2
        obtain ⟨H', hH'⟩ : ∃ H' : Hp, H' = fun b => if b = P0 then some (.tup ((List.range' 0 N).map fun j => V.ref (base + j))) else if base ≤ (b : Nat) ∧ (b : Nat) < base + N then some (.tup (colV ((b : Nat) - base))) else H1 b := ⟨_, rfl⟩
        have atP : H' P0 = some (.tup ((List.range' 0 N).map fun j => V.ref (base + j))) := by rw [hH']; exact if_pos rfl
        have atJ : ∀ j, j < N → H' (base + j) = some (.tup (colV j)) := fun j hj => by
          have h1 := lt' j hj
          rw [hH']
          show (if (base + j : Nat) = P0 then _ else _) = _
          rw [if_neg (by omega)]
          show (if base ≤ base + j ∧ base + j < base + N then _ else _) = _
          rw [if_pos ⟨by omega, by omega⟩]
          have : base + j - base = j := by omega
          rw [this]
        have atO : ∀ (b : Nat) o, s2.heap.get? b = some o → H' b = H1 b := fun b o hb => by
          have h1 : b < s2.heap.objs.size := Heap.lt_size hb
          have h2 : b < P0 := by rw [hP0]; exact Heap.lt_size (old b o hb)
          rw [hH']
          show (if (b : Nat) = P0 then _ else _) = _
          rw [if_neg (by omega)]
          show (if base ≤ b ∧ b < base + N then _ else _) = _
          rw [if_neg (by omega)]
        have atH : ∀ (b : Nat) u, H1 b = some u → H' b = some u := fun b u hb => by
          obtain ⟨o, ho⟩ := L2.objOk_get (I2.hok b u hb)
          rw [atO b o ho]; exact hb
        have hsz : acc.size = N := got.1
        have accE : acc.toList = (List.range' 0 N).map fun j => Value.ref (base + j) := by
          refine List.ext_getElem? fun j => ?_
          rw [Array.getElem?_toList]
          by_cases hj : j < N
          · rw [(got.2 j hj).1, List.getElem?_map, List.getElem?_range' hj]
            simp
          · rw [Array.getElem?_eq_none (by omega), List.getElem?_eq_none (by rw [List.length_map, List.length_range']; omega)]
        have colLen : ∀ j, (colV j).length = ls.length := fun j => by rw [hcolV]; simp only [List.length_map]; rw [e3, e2]
        have colVals : ∀ j, j < N → Vals (colV j) (ls.map fun l => l.2.getD j .none) := fun j hj => by
          rw [hcolV]
          refine vals_map (f := fun rv => rv.getD j .non) (gv := fun l => l.2.getD j .none) (by rw [e3, e2]) fun k rv l k1 k2 => ?_
          obtain ⟨r', rv', m1, m2, m3, m4, _⟩ := e4 k l.1 l.2 k2
          rw [k1] at m2
          cases m2
          have hjl : j < rv.length := by rw [← m3.len]; exact (c1 j hj).2 r' (List.mem_of_getElem? m1)
          obtain ⟨u, n1, n2⟩ := m4.get (i := j) (List.getElem?_eq_getElem hjl)
          rw [List.getD_eq_getElem?_getD, List.getD_eq_getElem?_getD, List.getElem?_eq_getElem hjl, n1]
          exact n2
        have tupAt : ∀ j, j < N → IsTup h' (base + j) (ls.map fun l => l.2.getD j .none).toArray := fun j hj => ⟨_, (got.2 j hj).2, rfl, _, rfl⟩
        have lineN : ls.length ≤ sizeLine := by rw [sizeLine_eq]; exact hn
        obtain ⟨hF, hhF⟩ : ∃ hF : Heap, hF = h'.push { cls := .type "tuple", data := .seq acc } := ⟨_, rfl⟩
        have keepF : ∀ b o, h'.get? b = some o → hF.get? b = some o := fun b o z => by rw [hhF]; exact Heap.get?_push_of_some _ z
        have hok' : HOk X.prog X.w H' hF := fun b u hb => by
          by_cases hbP : b = P0
          · rw [hbP, atP] at hb
            cases hb
            rw [hbP]
            refine ⟨by rw [List.length_map, List.length_range']; exact hN, (List.range' 0 N).map fun j => Value.ref (base + j), ?_, ?_⟩
            · have : ∀ l : List Nat, Vals (l.map fun j => V.ref (base + j)) (l.map fun j => Value.ref (base + j)) := fun l => by
                induction l with
                | nil => exact .nil
                | cons a l ih => exact .cons rfl ih
              exact this _
            · rw [← accE, hhF, hP0]
              exact ⟨_, Heap.get?_push_size _ rfl, rfl, 0, by simp⟩
          · by_cases hbj : base ≤ (b : Nat) ∧ (b : Nat) < base + N
            · have hj : (b : Nat) - base < N := Nat.sub_lt_left_of_lt_add hbj.1 hbj.2
              have eb : base + ((b : Nat) - base) = b := Nat.add_sub_cancel' hbj.1
              have hb' : H' (base + ((b : Nat) - base)) = some u := by rw [eb]; exact hb
              rw [atJ _ hj] at hb'
              cases hb'
              refine ⟨by rw [colLen]; exact lineN, _, colVals _ hj, ?_⟩
              have := tupAt _ hj
              rw [eb] at this
              exact this.keeps keepF
            · have hb1 : H1 b = some u := by
                rw [hH'] at hb
                have hb : (if b = P0 then some (HO.tup ((List.range' 0 N).map fun j => V.ref (base + j))) else if base ≤ (b : Nat) ∧ (b : Nat) < base + N then some (.tup (colV ((b : Nat) - base))) else H1 b) = some u := hb
                rw [if_neg hbP, if_neg hbj] at hb
                exact hb
              exact (I2.hok b u hb1).stay (fun c v _ z => keepF c v (old c v z)) (fun c z => atH c _ z) fun c xs z => atH c _ z
        have un : Un X.fs [] H1 H' s2.heap hF := ⟨fun b o z _ _ _ => keepF b o (old b o z), fun b o z _ _ _ => ⟨o.slots, keepF b o (old b o z)⟩, fun b o z n _ => by rw [atO b o z]; exact n, fun b o z _ => ⟨o, keepF b o (old b o z)⟩, fun b xs z => atH b _ z, fun b o xs z => atH b _ z, fun b ps z => ⟨#[], by rw [atH b _ z]; simp⟩⟩
        have I3 := I2.un (t' := s2.toks) un hok'
        rw [hhF] at I3
        show EP X pins σ Q (.ref h'.objs.size) _
        refine ⟨.ref P0, H', I3, by rw [hP0]; exact rfl, ?_⟩
        refine q1 g1 H' (After.aside atH) (r1.aside atH) _ ?_
        have colR : ∀ j, j < N → Reps g1.φ H' ((r0 :: rs).map (getR j)) (colV j) := fun j hj => by
          rw [hcolV]
          refine reps_map (f := getR j) (gv := fun rv => rv.getD j .non) (by rw [e3]) fun k r' rv k1 k2 => ?_
          have hk : k < ls.length := by rw [hlen]; exact (List.getElem?_eq_some_iff.mp k1).1
          obtain ⟨r2, rv2, m1, m2, m3, _⟩ := e4 k ls[k].1 ls[k].2 (List.getElem?_eq_getElem hk)
          rw [k1] at m1
          rw [k2] at m2
          cases m1
          cases m2
          have hjl : j < r'.length := (c1 j hj).2 r' (List.mem_of_getElem? k1)
          obtain ⟨v, n1, n2⟩ := m3.get (i := j) (List.getElem?_eq_getElem hjl)
          unfold getR
          rw [List.getD_eq_getElem?_getD, List.getD_eq_getElem?_getD, List.getElem?_eq_getElem hjl, n1]
          exact Rep.mono ⟨[], by simp⟩ (fun b ys z => atH b _ z) _ _ n2
        have colsE : (cols (r0 :: rs)).map D.tup = (List.range' 0 N).map fun j => D.tup ((r0 :: rs).map (getR j)) := by
          refine List.ext_getElem? fun j => ?_
          rw [List.getElem?_map, List.getElem?_map]
          by_cases hj : j < N
          · rw [(c1 j hj).1, List.getElem?_range' hj]
            simp
          · rw [List.getElem?_eq_none (by omega), List.getElem?_eq_none (by rw [List.length_range']; omega)] <;> rfl
        rw [colsE]
        exact Rep.tup atP (reps_tups (f := fun j => (r0 :: rs).map (getR j)) (cv := colV) fun i hi => by
          rw [Nat.zero_add]
          exact ⟨atJ i hi, colR i hi⟩)
end
end Ev
/-! EvN: calls of any depth. -/
namespace Ev
open PySem PySem.Spec PyProof.Rows
open L2 (V HO Hp Cx Inv PE PT PA PS PSs PG PGs PI PW PO PK PTs RelV Vals upd upd_same upd_ne SqL SqT TE TT TA TS TG TGs TI TO WX XK VK Room Takes EP FpOk Ends Un UB HOk ObjOk Env0)
theorem zipOk (Z : Zx) : ZipOk Z := ⟨fun d C X W G a f p p2 sp p3 pos pe g1 g2 g3 g4 => zip_pe G pe g1 g2 g3 g4⟩
/-- what is asked of a law's tables -/
structure Full (Z : Zx) : Prop where
  zo : Zok Z
  co : ClsOk Z
  cf : ClsF Z
  df : ∀ f F, Z.pg.fns[f]? = some F → F = ⟨0, 0, [], .cons .brk .nil⟩ ∨ DefT Z f F
section
variable {Z : Zx}
theorem calls (F : Full Z) : ∀ n, CallP Z (n + 1) (callF Z.pg n) ∧ ValP Z (n + 1) (callV Z.pg n)
  | 0 => ⟨fun C X W G tk f q hq us0 ks ws0 us hus pins s0 σ H vs Q g en s ws I rv r e hv hfin => by rw [callF] at hfin; exact hfin.elim,
    fun C X W G tk pins s0 σ H w v u us vs Q g en s ws I ru hw rv r e hv hfin => by rw [callV] at hfin; exact hfin.elim⟩
  | n + 1 =>
    have ih := calls F n
    have ihA := ihe_all F.zo (zipOk Z) ih.1 ih.2
    have ihs := ihs_all ihA (ex_ok F.co F.cf (Nat.succ_pos n))
    ⟨callP_succ F.co ihs (fun f G h hn => (F.df f G h).resolve_left fun z => hn (by rw [z])) fun f G h _ => F.df f G h, valP_succ ihA⟩
end
end Ev
/-! EvQ: a law's tables; what the head must tell of them. -/
namespace Ev
open PySem PySem.Spec PyProof.Rows
open L2 (V HO Hp Cx Inv RelV Vals upd SqL VK XK Room)
/-- a law's tables: what the translator knows; the classes; the defs; the classes' __init__ (class, field, def) -/
structure LT where
  tx : Tx
  cls : List (Option Nat × List Str)
  dis : List Di
  fns : List Fn
  ini : List (Str × Str × He.DefD)
def LT.pg (T : LT) : Pg := ⟨T.fns, T.cls⟩
def dName (d : Di) : Str := match d.st with
  | .FunctionDef n .. => n
  | _ => ""
def defD (d : Di) : He.DefD := match d.st with
  | .FunctionDef n a b _ _ _ sc _ _ _ => ⟨(n, none), n, n, a, b, sc, [], []⟩
  | _ => ⟨("", none), "", "", ⟨[], [], none, [], [], none, []⟩, [], ⟨.function, [], false, false, []⟩, [], []⟩
def lamQ (x : Str) : Str := (x ++ ".<locals>." : Str) ++ "<lambda>"
/-- the defs with lambdas -/
def LT.lds (T : LT) : List Di := T.dis.filter fun d => !d.lams.isEmpty
def LT.tf (T : LT) : List He.Defn := T.lds.map fun d => (dName d, none)
def clsAt (T : LT) (c : Nat) : Str := ((T.tx.cls[c]?).map (·.1)).getD ""
def fnAt (T : LT) (f : Nat) : Str := ((T.tx.fns[f]?).map (·.1)).getD ""
def clsB (K : PySem.W.Frag) (C : Addr) : Bool := match K.lookup C with
  | some ⟨.type t, _, .cls cd, sl⟩ => decide (t = "type") && (match cd.mro, sl.toList with
    | .ref C' :: bm, [_, _, _, _, some (.builtin n), _] => C' == C && n == "ValueError.__new__" && !cd.hasDel && cd.hasDict && HandSPX.refsVE bm
    | _, _ => false)
  | _ => false
theorem clsB_ok {K : PySem.W.Frag} {C : Addr} (h : clsB K C = true) : ∃ nm q N bs bm sn sub ab col dd k0 k1 k2 k3 k5, K.lookup C = some (excClassObj nm q C N bs bm true sn sub ab col dd k0 k1 k2 k3 k5 "ValueError.__new__") ∧ HandSPX.refsVE bm = true := by
  unfold clsB at h
  split at h
  · rename_i t dd cd sl ho
    simp only [Bool.and_eq_true, decide_eq_true_eq] at h
    obtain ⟨rfl, h⟩ := h
    split at h
    · rename_i C' bm k0 k1 k2 k3 n k5 hm hs
      simp only [Bool.and_eq_true, beq_iff_eq, Bool.not_eq_true'] at h
      obtain ⟨⟨⟨⟨rfl, rfl⟩, hdel⟩, hdc⟩, hr⟩ := h
      obtain ⟨nm, bs, mro, ns, qn, hd, sn, sub, ab, col, del⟩ := cd
      dsimp only at hm hdel hdc
      subst hm hdel hdc
      have hsl : sl = #[k0, k1, k2, k3, some (.builtin "ValueError.__new__"), k5] := by
        obtain ⟨l⟩ := sl
        simp only at hs
        rw [hs]
      subst hsl
      exact ⟨nm, qn, ns, bs, bm, sn, sub, ab, col, dd, k0, k1, k2, k3, k5, ho, hr⟩
    · cases h
  · cases h
/-- an own class with the field fl -/
def ownB (K : PySem.W.Frag) (C fI : Addr) (fl : Str) : Bool := clsB K C && He.eqO (PySem.W.findIn K (.ref C) "__setattr__") (some (some (.builtin "object.__setattr__"))) && He.eqO (PySem.W.findIn K (.ref C) fl) (some none) && He.eqO (PySem.W.findIn K (.ref C) "__init__") (some (some (.ref fI))) &&
  decide (PySem.W.typeIn K (.ref fI) = some (.type "function")) && PySem.W.keepIn K (.ref C) && decide (PySem.W.subIn K (.ref C) (.type "BaseException") = some true) && decide (PySem.W.typeIn K (.ref C) = some (.type "type"))
def LT.ca (T : LT) (K : PySem.W.Frag) (c : Nat) : Addr := He.ga K (clsAt T c)
/-- what is asked of the written part -/
def exB (T : LT) (K : PySem.W.Frag) : Bool := (T.ini.all fun p => ownB K (He.ga K p.1) (He.ma K (He.ga K p.1) "__init__") p.2.1) &&
  ((List.range T.cls.length).all fun c => (List.range T.cls.length).all fun c' => decide (PySem.W.exmOne K (.ref (T.ca K c)) (.ref (T.ca K c')) = some (isSub T.cls 20 c c'))) &&
  ((List.range T.cls.length).all fun c => (((T.cls[c]?).map (·.2)).getD []).all fun f => L2.xfB K (T.ca K c) && He.eqO (PySem.W.findIn K (.ref (T.ca K c)) f) (some none)) &&
  (K.all fun p => !(p.2.cls == .type "list")) && decide (T.tf.map fun p => (He.cT K p).2).Nodup
def LT.fa (T : LT) : List He.Fa := T.tx.fns.map (fun p => .glo p.1) ++ T.tx.cls.map (fun p => .glo p.1) ++ (buS.filter fun x => !(T.tx.fns.any fun p => p.1 == x) && !(T.tx.cls.any fun p => p.1 == x)).map .free
def LT.fn (T : LT) : List He.DefD := T.dis.map defD ++ T.ini.map (·.2.2)
/-- a law's context -/
def LT.z (T : LT) (P : Program) (w : World) (K : PySem.W.Frag) (mg : Str → Option Value) (base : Heap) : Zx where
  P := P
  w := w
  K := K
  mg := mg
  base := base
  T := T.tf.map fun p => ((He.cT K p).2, lamQ p.1)
  tx := T.tx
  pg := T.pg
  fa := fun f => He.ga K (fnAt T f)
  ca := T.ca K
/-- what is asked of one def, in the text -/
def diB (T : LT) (d : Di) : Bool := match d.st with
  | .FunctionDef _ a _ _ _ _ sc _ _ _ => decide (sc.kind = .function) && !sc.isCoroutine && !sc.isGenerator && decide d.N.Nodup && decide (d.N.take (paramsOf a).length = paramsOf a) && ((paramsOf a).all fun x => sc.names.lookup x == some .local || sc.names.lookup x == some .cell) && (sc.names.all fun y => !(y.2 == .free)) &&
    plainArgs a && (sc.names.all fun y => sc.names.lookup y.1 == some y.2) && decide (cellsOf ⟨T.tx, d.N, sc, d.lams, d.cs⟩ sc).Nodup
  | _ => true
/-- what is asked of the tables themselves -/
structure LT.Ok (T : LT) : Prop where
  fns : T.dis.length = T.fns.length ∧ T.tx.fns.length = T.fns.length
  nm : ∀ (i : Nat) (d : Di), T.dis[i]? = some d → ∃ ps, T.tx.fns[i]? = some (dName d, ps)
  cl : T.tx.cls.map (·.2) = T.cls.map (·.2)
  sub : ∀ c, c < T.cls.length → ∀ c', c' < T.cls.length → isSub T.cls 20 c c' = true → (((T.cls[c]?).map (·.2)).getD []).take (((T.cls[c']?).map (·.2)).getD []).length = ((T.cls[c']?).map (·.2)).getD []
  ini : ∀ (i : Nat) (x : Str) (fl : Str), T.tx.cls[i]? = some (x, [fl]) → ∃ d, (x, fl, d) ∈ T.ini
  inD : ∀ p ∈ T.ini, p.2.2.at_ = (p.1, some ("__init__" : Str)) ∧ p.2.2.name = "__init__" ∧ p.2.2.dfl = [] ∧ p.2.2.kwd = [] ∧ (p.2.1 == ("self" : Str)) = false ∧ (p.2.1 == ("__debug__" : Str)) = false ∧
    ∃ p1 p2 q1 q2 q3 q4 : Pos, p.2.2.params = iA p.2.1 p1 p2 ∧ p.2.2.body = iB p.2.1 q1 q2 q3 q4 ∧ p.2.2.scope = iS p.2.1
  df : ∀ (i : Nat) (d : Di), T.dis[i]? = some d → T.fns[i]? = some ⟨0, 0, [], .cons .brk .nil⟩ ∨ (mkFn T.tx d = T.fns[i]? ∧ diB T d = true ∧ ∃ n a b sc bd ps, d.st = .FunctionDef n a b [] none [] sc none bd ps ∧ T.tx.fns[i]? = some (n, paramsOf a) ∧
    ∀ (k : Nat) (ks : List Str) (pm' : List Nat), (i, k, ks) ∈ T.tx.kcs → permOf (paramsOf a) k ks = some pm' → ∀ (kV doc pm cdv ct : Value) (an : Option Addr) (us0 ws0 us : List Value), us0.length = k → ws0.length = ks.length → mapO (fun i => (us0 ++ ws0)[i]?) pm' = some us →
      bindArgs (PySem.W.fnOf n n a b sc .none kV doc pm an cdv ct) ⟨us0, ks.zip ws0⟩ = pure ((paramsOf a).zip us))
theorem nodup_find {α : Type} [BEq α] [LawfulBEq α] {β : Type} {l : List (α × β)} (hn : (l.map (·.1)).Nodup) {i : Nat} {p : α × β} (h : l[i]? = some p) : l.findIdx? (fun q => q.1 == p.1) = some i := by
  rw [List.findIdx?_eq_some_iff_getElem]
  obtain ⟨hi, e⟩ := List.getElem?_eq_some_iff.mp h
  refine ⟨hi, by rw [e]; simp, fun j hj => ?_⟩
  intro z
  have z : l[j].1 = p.1 := by simpa using z
  have h1 : (l.map (·.1))[j]'(by rw [List.length_map]; omega) = (l.map (·.1))[i]'(by rw [List.length_map]; exact hi) := by
    rw [List.getElem_map, List.getElem_map, z, e]
  have := (List.getElem_inj (h₀ := by rw [List.length_map]; omega) (h₁ := by rw [List.length_map]; exact hi) hn).mp h1
  omega
theorem find_get {l : List (Str × List Str)} {x : Str} {q : Str × List Str → Bool} {i : Nat} (h : l.findIdx? (fun p => p.1 == x && q p) = some i) : ∃ fs, l[i]? = some (x, fs) ∧ q (x, fs) = true := by
  obtain ⟨h1, h2, _⟩ := List.findIdx?_eq_some_iff_getElem.mp h
  simp only [Bool.and_eq_true, beq_iff_eq] at h2
  refine ⟨l[i].2, ?_, ?_⟩
  · rw [List.getElem?_eq_getElem h1, ← h2.1]
  · rw [← h2.1]; exact h2.2
theorem defD_at (d : Di) : (defD d).at_ = (dName d, none) := by
  unfold defD dName
  split <;> rfl
theorem nodup_map {α β : Type} {f : α → β} : ∀ {l : List α}, (l.map f).Nodup → ∀ {a b : α}, a ∈ l → b ∈ l → f a = f b → a = b
  | [], _, _, _, h, _, _ => by simp at h
  | x :: l, hn, a, b, ha, hb, he => by
    rw [List.map_cons, List.nodup_cons] at hn
    rcases List.mem_cons.mp ha with ea | ia
    · rcases List.mem_cons.mp hb with eb | ib
      · rw [ea, eb]
      · exact absurd (List.mem_map.mpr ⟨b, ib, by rw [← he, ea]⟩) hn.1
    · rcases List.mem_cons.mp hb with eb | ib
      · exact absurd (List.mem_map.mpr ⟨a, ia, by rw [he, eb]⟩) hn.1
      · exact nodup_map hn.2 ia ib he
section
variable {T : LT} {P : Program} {w : World} {K : PySem.W.Frag} {mg : Str → Option Value} {base h : Heap}
theorem full_of (O : T.Ok) (X : K.In base) (G : base.Ns mainGlobals mg) (S : He.SaysX T.fa T.fn [] T.tf (exB T) w h K) (hTab : ∀ p ∈ T.tf.map (He.cT K), LamX.TabB base mg p.1 p.2) : Full (T.z P w K mg base) := by
  have D := S.t.d
  have ex := S.more
  unfold exB at ex
  simp only [Bool.and_eq_true, decide_eq_true_eq] at ex
  obtain ⟨⟨⟨⟨x1, x2⟩, x3⟩, x4⟩, x5⟩ := ex
  have glo : ∀ x, He.Fa.glo x ∈ T.fa → mg x = some (.ref (He.ga K x)) := fun x hx => He.glo_ok X G (D.facts hx)
  have gloF : ∀ p ∈ T.tx.fns, mg p.1 = some (.ref (He.ga K p.1)) := fun p hp => glo p.1 (by
    unfold LT.fa
    exact List.mem_append_left _ (List.mem_append_left _ (List.mem_map.mpr ⟨p, hp, rfl⟩)))
  have gloC : ∀ p ∈ T.tx.cls, mg p.1 = some (.ref (He.ga K p.1)) := fun p hp => glo p.1 (by
    unfold LT.fa
    exact List.mem_append_left _ (List.mem_append_right _ (List.mem_map.mpr ⟨p, hp, rfl⟩)))
  have lenC : T.tx.cls.length = T.cls.length := by have := congrArg List.length O.cl; simpa using this
  have clEq : ∀ c : Nat, ((T.tx.cls[c]?).map Prod.snd) = ((T.cls[c]?).map Prod.snd) := fun c => by
    have := congrArg (fun l : List (List Str) => l[c]?) O.cl
    simp only [List.getElem?_map] at this
    exact this
  -- a class's own facts
  have own : ∀ (i : Nat) (x fl : Str), T.tx.cls[i]? = some (x, [fl]) → T.ca K i = He.ga K x ∧ ∃ fI qn, OwnTxt K (He.ga K x) fI fl qn := fun i x fl hi => by
    refine ⟨by unfold LT.ca clsAt; rw [hi] <;> rfl, ?_⟩
    obtain ⟨dd, hd⟩ := O.ini i x fl hi
    have hb := List.all_eq_true.mp x1 _ hd
    unfold ownB at hb
    simp only [Bool.and_eq_true, decide_eq_true_eq] at hb
    obtain ⟨⟨⟨⟨⟨⟨⟨b1, b2⟩, b3⟩, b4⟩, b5⟩, b6⟩, b7⟩, b8⟩ := hb
    obtain ⟨i1, i2, i3, i4, i5, i6, p1, p2, q1, q2, q3, q4, i7, i8, i9⟩ := O.inD _ hd
    obtain ⟨fd, FD⟩ := D.defs (d := dd) (by unfold LT.fn; exact List.mem_append_right _ (List.mem_map.mpr ⟨_, hd, rfl⟩))
    obtain ⟨oc, od, dV, kV, doc, pm, an, cdv, ct, osl, e1, e2, e3, e4, e5⟩ := FD.ex
    have hdV : dV = .none := by
      rcases e4 with z | z
      · exact z.2
      · exact absurd (by show dd.dvs K = []; unfold He.DefD.dvs; rw [show dd.dfl = [] from i3] <;> rfl) z.1
    have e2 : K.lookup (He.fAd K dd.at_) = some ⟨oc, od, .func fd, osl⟩ := e2
    have hat : He.fAd K dd.at_ = He.ma K (He.ga K x) "__init__" := by rw [show dd.at_ = (x, some ("__init__" : Str)) from i1] <;> rfl
    rw [hat, e1, hdV, show dd.name = "__init__" from i2, show dd.params = iA fl p1 p2 from i7, show dd.body = iB fl q1 q2 q3 q4 from i8, show dd.scope = iS fl from i9] at e2
    exact ⟨_, dd.qual, ⟨i5, i6, clsB_ok b1, He.eqO_ok b2, He.eqO_ok b3, He.eqO_ok b4, b5, b6, b7, b8, oc, od, kV, doc, pm, an, cdv, ct, osl, p1, p2, q1, q2, q3, q4, e2, e3⟩⟩
  have findC : ∀ (x : Str) (i : Nat) (q : Str × List Str → Bool), T.tx.cls.findIdx? (fun p => p.1 == x && q p) = some i → ∃ fs, T.tx.cls[i]? = some (x, fs) ∧ q (x, fs) = true := fun x i q h => find_get h
  have caOf : ∀ (i : Nat) (x : Str) (fs : List Str), T.tx.cls[i]? = some (x, fs) → T.ca K i = He.ga K x := fun i x fs hi => by unfold LT.ca clsAt; rw [hi] <;> rfl
  refine ⟨⟨fun x f hf => ?_, fun x hx h1 h2 => ?_⟩, fun x i hi => ?_, ⟨fun x c hc => ?_, fun c c' hc hc' => ?_, fun c c' p f i hs hc' hi => ?_, lenC⟩, fun f F hF => ?_⟩
  · -- a def's name
    have hf : T.tx.fns.findIdx? (fun p => p.1 == x) = some f := hf
    obtain ⟨fs, hfs, _⟩ := find_get (q := fun _ => true) (x := x) (l := T.tx.fns) (i := f) (by simpa using hf)
    have e : (T.z P w K mg base).fa f = He.ga K x := by show He.ga K (fnAt T f) = _; unfold fnAt; rw [hfs] <;> rfl
    rw [e]
    refine ⟨gloF _ (List.mem_of_getElem? hfs), ?_⟩
    have hlt : f < T.dis.length := by rw [O.fns.1, ← O.fns.2]; exact (List.getElem?_eq_some_iff.mp hfs).1
    obtain ⟨ps, hps⟩ := O.nm f _ (List.getElem?_eq_getElem hlt)
    rw [hfs] at hps
    cases hps
    obtain ⟨fd, FD⟩ := D.defs (d := defD T.dis[f]) (by unfold LT.fn; exact List.mem_append_left _ (List.mem_map.mpr ⟨_, List.getElem_mem hlt, rfl⟩))
    have := FD.kp
    rw [defD_at] at this
    exact this
  · refine He.free_ok X G (D.facts (f := .free x) ?_)
    unfold LT.fa
    refine List.mem_append_right _ (List.mem_map.mpr ⟨x, List.mem_filter.mpr ⟨hx, ?_⟩, rfl⟩)
    rw [show (T.tx.fns.any fun p => p.1 == x) = false from h1, show (T.tx.cls.any fun p => p.1 == x) = false from h2] <;> rfl
  · have hi : T.tx.cls.findIdx? (fun p => p.1 == x && Nat.beq p.2.length 1) = some i := hi
    obtain ⟨fs, h1, h2⟩ := find_get (q := fun p => Nat.beq p.2.length 1) hi
    have h2 := Nat.eq_of_beq_eq_true h2
    match fs, h2 with
    | [fl], _ =>
      obtain ⟨k1, fI, qn, k2⟩ := own i x fl h1
      have k1' : (T.z P w K mg base).ca i = He.ga K x := k1
      rw [k1']
      refine ⟨gloC _ (List.mem_of_getElem? h1), ?_⟩
      have := clEq i
      rw [h1] at this
      cases hc : T.cls[i]? with
      | none => rw [hc] at this; cases this
      | some q =>
        rw [hc] at this
        obtain ⟨par, fds⟩ := q
        cases this
        exact ⟨par, fl, fI, qn, hc, k2⟩
  · have hc : T.tx.cls.findIdx? (fun p => p.1 == x) = some c := hc
    obtain ⟨fs, h1, _⟩ := find_get (q := fun _ => true) (x := x) (l := T.tx.cls) (i := c) (by simpa using hc)
    rw [show (T.z P w K mg base).ca c = He.ga K x from caOf c x fs h1]
    exact gloC _ (List.mem_of_getElem? h1)
  · have := List.all_eq_true.mp (List.all_eq_true.mp x2 c (List.mem_range.mpr hc)) c' (List.mem_range.mpr hc')
    exact of_decide_eq_true this
  · -- a field of a class
    have hs : isSub T.cls 20 c c' = true := hs
    have hc' : T.tx.cls[c']? = some p := hc'
    have hlt' : c' < T.cls.length := by rw [← lenC]; exact (List.getElem?_eq_some_iff.mp hc').1
    have e2 := clEq c'
    rw [hc'] at e2
    cases hcl' : T.cls[c']? with
    | none => rw [hcl'] at e2; cases e2
    | some q' =>
      rw [hcl'] at e2
      have e2 : p.2 = q'.2 := Option.some.inj e2
      cases hcl : T.cls[c]? with
      | none =>
        exfalso
        rw [isSub] at hs
        simp only [hcl, Bool.or_false] at hs
        have := Nat.eq_of_beq_eq_true hs
        subst this
        rw [hcl] at hcl'
        cases hcl'
      | some q =>
        obtain ⟨par, fds⟩ := q
        have hlt : c < T.cls.length := (List.getElem?_eq_some_iff.mp hcl).1
        have hsub := O.sub c hlt c' hlt' hs
        rw [hcl, hcl'] at hsub
        have hsub : fds.take q'.2.length = q'.2 := hsub
        have hpi := findIdx_get hi
        have hfi : fds[i]? = some f := by
          rw [e2, ← hsub] at hpi
          have hlt2 := (List.getElem?_eq_some_iff.mp hpi).1
          rw [List.length_take] at hlt2
          rw [List.getElem?_take_of_lt (by omega)] at hpi
          exact hpi
        have h3 := List.all_eq_true.mp x3 c (List.mem_range.mpr hlt)
        rw [hcl] at h3
        have h4 := List.all_eq_true.mp h3 f (List.mem_of_getElem? hfi)
        simp only [Bool.and_eq_true] at h4
        exact ⟨par, fds, hcl, hfi, L2.xfB_ok h4.1, He.eqO_ok h4.2⟩
  · have hF : T.fns[f]? = some F := hF
    have hlt : f < T.dis.length := by rw [O.fns.1]; exact (List.getElem?_eq_some_iff.mp hF).1
    rcases O.df f _ (List.getElem?_eq_getElem hlt) with z | ⟨hm, hb, n, a, b, sc, bd, ps, hst, hfn, hkw⟩
    · rw [hF] at z
      exact .inl (Option.some.inj z)
    · right
      obtain ⟨d, hd⟩ : ∃ d, d = T.dis[f] := ⟨_, rfl⟩
      rw [← hd] at hm hb hst
      have hdm : d ∈ T.dis := by rw [hd]; exact List.getElem_mem hlt
      rw [hF] at hm
      unfold mkFn at hm
      rw [hst] at hm
      simp only at hm
      cases hbd : trSs 60 ⟨T.tx, d.N, sc, d.lams, d.cs⟩ b with
      | none => rw [hbd] at hm; cases hm
      | some cb =>
        rw [hbd] at hm
        have hm : (⟨a.args.length, d.N.length, cellsOf ⟨T.tx, d.N, sc, d.lams, d.cs⟩ sc, cb⟩ : Fn) = F := Option.some.inj hm
        subst hm
        unfold diB at hb
        rw [hst] at hb
        simp only [Bool.and_eq_true, decide_eq_true_eq, Bool.not_eq_true', List.all_eq_true, Bool.or_eq_true, beq_iff_eq] at hb
        obtain ⟨⟨⟨⟨⟨⟨⟨⟨⟨b1, b2⟩, b3⟩, b4⟩, b5⟩, b6⟩, b7⟩, b8⟩, b9⟩, b10⟩ := hb
        obtain ⟨fd, FD⟩ := D.defs (d := defD d) (by unfold LT.fn; exact List.mem_append_left _ (List.mem_map.mpr ⟨_, hdm, rfl⟩))
        have hdd : defD d = ⟨(n, none), n, n, a, b, sc, [], []⟩ := by unfold defD; rw [hst]
        rw [hdd] at FD
        obtain ⟨oc, od, dV, kV, doc, pm, an, cdv, ct, osl, e1, e2, e3, e4, e5⟩ := FD.ex
        have hdV : dV = .none := by
          rcases e4 with z | z
          · exact z.2
          · exact absurd rfl z.1
        rw [e1, hdV] at e2
        have hfa : (T.z P w K mg base).fa f = He.ga K n := by show He.ga K (fnAt T f) = _; unfold fnAt; rw [hfn] <;> rfl
        have e2 : K.lookup (He.ga K n) = some ⟨oc, od, .func (PySem.W.fnOf n n a b sc .none kV doc pm an cdv ct), osl⟩ := e2
        refine ⟨n, n, n, a, b, sc, kV, doc, pm, cdv, ct, oc, an, od, osl, d.N, d.lams, d.cs, 60, by rw [hfa]; exact e2, e3, ⟨b1, b2, b3, b4, b5, b6, fun y hy z => ?_⟩, b8, hfn, hbd, by unfold paramsOf; rw [List.length_map], rfl, rfl, b10, fun y hy => b9 y hy, fun hl => ?_, fun k ks pm' h1 h2 us0 ws0 us h3 h4 h5 => hkw k ks pm' h1 h2 kV doc pm cdv ct an us0 ws0 us h3 h4 h5⟩
        · have := b7 y hy
          rw [z] at this
          cases this
        · obtain ⟨c, rfl⟩ := He.codeIn_ref e3
          have hmem : ((n, none) : He.Defn) ∈ T.tf := by
            unfold LT.tf LT.lds
            refine List.mem_map.mpr ⟨d, List.mem_filter.mpr ⟨hdm, ?_⟩, by unfold dName; rw [hst]⟩
            cases hq : d.lams with
            | nil => exact absurd hq hl
            | cons _ _ => rfl
          have hc : He.codeOf K (n, none) = c := He.codeOf_eq (p := (n, none)) e2 rfl
          have ht := hTab _ (List.mem_map.mpr ⟨_, hmem, rfl⟩)
          refine ⟨c, (He.cT K (n, none)).2, rfl, ?_, List.mem_map.mpr ⟨_, hmem, rfl⟩, fun p hp he => ?_⟩
          · have : (He.cT K (n, none)).1 = c := hc
            rw [← this]
            exact ht
          · obtain ⟨p', hp', rfl⟩ := List.mem_map.mp hp
            have he : (He.cT K p').2 = (He.cT K (n, none)).2 := he
            have : p' = (n, none) := nodup_map x5 hp' hmem he
            rw [this] <;> rfl
end
end Ev
/-! EvR: the law's own def keeps its promise. -/
namespace Ev
open PySem PySem.Spec PyProof.Rows
open L2 (V HO Hp Cx Inv PE PT PA PS PSs PG PGs PI PW PO PK PTs RelV Vals upd upd_same upd_ne SqL SqT TE TT TA TS TG TGs TI TO WX XK VK Room Takes EP FpOk Ends Un UB HOk ObjOk Env0 Sp FnOk)
/-- the script stands in the heap -/
def startS (ns : List Int) : S := { n := 1, h := (Tr.nil : Tr O).put 0 (some (.fro (ns.map .int))), m := 0, c := .nil }
/-- the law's run says True at every script -/
def Good (P : Pg) (depth li : Nat) : Prop := ∀ ns : List Int, ns.length ≤ 63 → (∀ z ∈ ns, Builtin.Int.intBits z ≤ 1048576) → ∃ s', callF P depth li [.ref 0] (startS ns) = .ok (.bl true) s'
def spL (Z : Zx) : Sp := fun vs H Q _ => ∃ (a : Addr) (ns : List Int), vs = [.ref a] ∧ ns.length ≤ 63 ∧ (∀ z ∈ ns, Builtin.Int.intBits z ≤ 1048576) ∧ LamX.Tabs Z.T H ∧ SqL Z.K H a (ns.map V.int) ∧ ∀ H', Q (.bl true) H'
theorem reps_ints {φ : List Addr} {H : Hp} : ∀ ns : List Int, Reps φ H (ns.map D.int) (ns.map V.int)
  | [] => reps_nil
  | n :: ns => reps_cons (Rep.int n) (reps_ints ns)
section
variable {Z : Zx} {n li : Nat} {FL : Fn} {A : Around} {outer : List PySem.Env} {sh : Shared} {H : Hp} {us : List Value} {Q : VK} {E : XK} {a : Addr} {ns : List Int}
/-- the law runs, the script known as it is -/
theorem law_core (F : Full Z) (hF : Z.pg.fns[li]? = some FL) (hst : FL ≠ ⟨0, 0, [], .cons .brk .nil⟩) (hnp : FL.np = 1) (good : ∃ s', callF Z.pg (n + 1) li [.ref 0] (startS ns) = .ok (.bl true) s') {oc : Value} {od : Option Addr} {fd : FuncData} {osl : Array (Option Value)} {x : Str} {args : Args}
    (lk : Z.K.lookup (Z.fa li) = some ⟨oc, od, .func fd, osl⟩) (hx : ∃ y, Z.tx.fns[li]? = some (y, [x])) (hr : Room (n + 2) A) (e0 : Env0 Z.P Z.w Z.K Z.mg Z.base A outer sh H) (hb : BindsTo sh fd args ([x].zip us)) (hv : Vals [.ref a] us) (hT : LamX.Tabs Z.T H) {o : Obj} (ha : H a = some (.frz o (.lst (ns.map V.int)))) (hq : ∀ H', Q (.bl true) H') :
    codeAny (model Z.P Z.w) A (.call (.ref (Z.fa li)) args) (L2.CR (L2.CX Z.P Z.w) outer Z.P Z.w H sh Q E) sh := by
  have hD : DefT Z li FL := (F.df li FL hF).resolve_left hst
  obtain ⟨name, qual, y, params, body, scope, kV, doc, pm, cdv, ct, oc2, an, od2, osl2, N, lams, cs, m, lk2, hcd, S, hpl, hfn, htr, hnp2, hns, hcs, hnd, huq, hlam, hkw⟩ := hD.ex
  rw [lk] at lk2
  have hfd : fd = PySem.W.fnOf name qual params body scope .none kV doc pm an cdv ct := by
    have := Option.some.inj lk2
    injection this with _ _ h3 _
    injection h3
  subst hfd
  obtain ⟨y', hy'⟩ := hx
  rw [hfn] at hy'
  have hps : paramsOf params = [x] := (Prod.mk.inj (Option.some.inj hy')).2
  have ih := calls F n
  have ihs := ihs_all (ihe_all F.zo (zipOk Z) ih.1 ih.2) (ex_ok F.co F.cf (Nat.succ_pos n))
  obtain ⟨g, hg⟩ : ∃ g : Gh, g = ⟨[a], [], []⟩ := ⟨_, rfl⟩
  have rS : RelS Z g H (startS ns) := by
    rw [hg]
    refine ⟨rfl, rfl, fun i j b h1 h2 => ?_, fun k b h1 => ?_, fun k ob h1 => ?_, fun c b ow h1 => by simp at h1, fun c ow h1 => ?_, fun c c' b ow ow' h1 => by simp at h1, hT⟩
    · cases i <;> cases j <;> simp at h1 h2 ⊢
    · cases k with
      | zero =>
        simp at h1
        subst h1
        exact ⟨.fro (ns.map .int), Tr.get_put_same _ _ _, o, _, ha, reps_ints ns⟩
      | succ k => simp at h1
    · show k < 1
      by_cases hk : k = 0
      · omega
      · have h1 : ((Tr.nil : Tr O).put 0 (some (.fro (ns.map .int)))).get k = some ob := h1
        rw [Tr.get_put_ne _ _ hk, Tr.get_nil] at h1
        cases h1
    · have h1 : (Tr.nil : Tr (Option D)).get c = some ow := h1
      rw [Tr.get_nil] at h1
      cases h1
  obtain ⟨r0, hr0⟩ : ∃ r0 : R Fl, r0 = evSs (callF Z.pg n) (callV Z.pg n) Z.pg.cls FL.body (enter FL [.ref 0] (startS ns)).1 (enter FL [.ref 0] (startS ns)).2 := ⟨_, rfl⟩
  obtain ⟨s', good⟩ := good
  rw [callF_at hF (by rw [hnp] <;> rfl), ← hr0] at good
  obtain ⟨s3, hs3⟩ : ∃ s3, r0.bind leave = .ok (.bl true) s3 := by
    cases hq : r0.bind leave with
    | bad => rw [hq] at good; cases good
    | ex c vs s1 => rw [hq] at good; cases good
    | ok w s1 =>
      rw [hq] at good
      have good : (R.ok w (dropCells (enter FL [.ref 0] (startS ns)).1.ce s1 FL.cs) : R D) = .ok (.bl true) s' := good
      injection good with h1 h2
      subst h1
      exact ⟨s1, rfl⟩
  obtain ⟨g2, hg2⟩ : ∃ g2 : Gh, g2 = { φ := g.φ, ψ := g.ψ ++ placesOf ⟨Z.tx, N, scope, lams, cs⟩ scope (cellsFrom (sh.heap.objs.size + 1) scope.names []), lv := List.range' (startS ns).m FL.cs.length } := ⟨_, rfl⟩
  have hpre : (paramsOf params).length ≤ N.length := by have := congrArg List.length S.pre; rw [List.length_take] at this; omega
  have hvR : Reps g.φ H [D.ref 0] [V.ref a] := reps_cons (Rep.ref (by rw [hg] <;> rfl)) reps_nil
  have fr : ∀ X' : Cx, X'.N = N → X'.env.scope = scope → X'.env.cells = cellsFrom (sh.heap.objs.size + 1) scope.names [] → _ := fun X' a1 b1 c1 =>
    frame_rel (T := Z.tx) (N := N) (lams := lams) (cs := cs) (F := FL) (ws := [D.ref 0]) (vs := [V.ref a]) (X' := X') S (fun i x _ h => huq _ h) rS (by rw [hg]) hvR hns hcs hnd a1 b1 c1 (by rw [hps] at hpre; exact hpre)
  rw [← hg2] at fr
  obtain ⟨E', hE'⟩ : ∃ E' : XK, E' = fun _ _ _ => False := ⟨_, rfl⟩
  obtain ⟨Q', hQ'⟩ : ∃ Q' : VK, Q' = fun v H3 => v = .bl true := ⟨_, rfl⟩
  have rc : codeAny (model Z.P Z.w) A (.call (.ref (Z.fa li)) args) (L2.CR (L2.CX Z.P Z.w) outer Z.P Z.w H sh Q' E') sh := by
    refine LamX.run_ofS (N := N) (ps := paramsOf params) (us := us) (vs := [.ref a]) (k := n + 1) lk hcd S hr e0 (by rw [hps]; exact hb) hv (by rw [hps] <;> rfl) fun hr' => ?_
    have G' : Gs Z (n + 1) ⟨Z.tx, N, scope, lams, cs⟩ (L2.cxOf (L2.CX Z.P Z.w) Z.P Z.w Z.K Z.mg Z.base N qual scope (Z.fa li) cdv A outer sh H E') := by
      refine { P := rfl, w := rfl, K := rfl, mg := rfl, base := rfl, T := rfl, N := rfl, nd := S.nd, sc := rfl, calm := rfl, room := hr', cf := fun y c hy => ?_, lam := fun hn => ?_, fn := fun _ => rfl, own := L2.passes_of rfl, stk := rfl, frm := rfl }
      · have hy : (cellsFrom (sh.heap.objs.size + 1) scope.names []).lookup y = some c := hy
        have hc : sh.heap.objs.size + 1 ≤ c := by
          rcases cellsFrom_new _ _ _ _ _ (PySem.mem_of_lookup hy) with z | z
          · cases z
          · exact z.1
        refine ⟨?_, fun hb => ?_⟩
        · show Z.base.get? c = none
          cases z : Z.base.get? c with
          | none => rfl
          | some o => exact absurd (Heap.lt_size (e0.bs c o z).1) (Nat.not_lt.mpr (Nat.le_of_succ_le hc))
        · have hb : c ∈ L2.frs (PyProof.Rows.envOfC qual scope sh.heap.objs.size (Z.fa li) cdv :: outer) := hb
          unfold L2.frs at hb
          rw [List.filterMap_cons] at hb
          rcases List.mem_cons.mp hb with z | z
          · rw [z] at hc
            exact absurd hc (Nat.not_succ_le_self _)
          · obtain ⟨_, o, ho, _⟩ := e0.funs.mem z
            exact absurd (Heap.lt_size ho) (Nat.not_lt.mpr (Nat.le_of_succ_le hc))
      · obtain ⟨c, P, h1, h2, h3, h4⟩ := hlam hn
        exact ⟨c, P, h1, h2, h3, h4⟩
    have tk' : L2.Takes (L2.cxOf (L2.CX Z.P Z.w) Z.P Z.w Z.K Z.mg Z.base N qual scope (Z.fa li) cdv A outer sh H E') (fun cls dx _ H => E' cls dx H) := L2.takes_of rfl rfl rfl rfl
    obtain ⟨k1, k2, k3, k4, k5⟩ := fr (L2.cxOf (L2.CX Z.P Z.w) Z.P Z.w Z.K Z.mg Z.base N qual scope (Z.fa li) cdv A outer sh H E') rfl rfl rfl
    refine ⟨_, (ihs m).pss _ _ _ G' tk' body FL.body htr, g2, (enter FL [.ref 0] (startS ns)).1, (enter FL [.ref 0] (startS ns)).2, k1, k2, k3, ?_⟩
    rw [← hr0]
    refine FinS_of_leave (by rw [hs3]; intro z; cases z) (fun w s4 g3 H3 v h1 h2 h3 h4 => ?_) fun c ws' s4 σ' cls dx H3 h1 h2 => ?_
    · rw [hs3] at h1
      injection h1 with e1 e2
      subst e1
      rw [hQ']
      exact rep_bl h4
    · rw [hs3] at h1
      cases h1
  refine codeAny_mono rc fun rr s' hh => ?_
  cases rr with
  | error er =>
    have hh : L2.CX Z.P Z.w outer H sh E' er s' := hh
    obtain ⟨_, _, _, _, _, _, _, _, _, _, _, _, z⟩ := hh
    rw [hE'] at z
    exact z.elim
  | ok fl =>
    cases fl with
    | ret u =>
      have hh : L2.CE outer Z.P Z.w H sh Q' u s' := hh
      obtain ⟨v, H3, h1, h2, h3, h4, h5, h6⟩ := hh
      rw [hQ'] at h6
      have h6 : v = .bl true := h6
      subst h6
      exact ⟨_, H3, h1, h2, h3, h4, h5, hq H3⟩
    | next => exact False.elim hh
    | brk => exact False.elim hh
    | cont => exact False.elim hh
/-- the law's promise -/
theorem law_ok (F : Full Z) (hF : Z.pg.fns[li]? = some FL) (hst : FL ≠ ⟨0, 0, [], .cons .brk .nil⟩) (hnp : FL.np = 1) (good : Good Z.pg (n + 1) li) (hnl : ∀ b o, Z.K.lookup b = some o → o.cls ≠ .type "list") {oc : Value} {od : Option Addr} {fd : FuncData} {osl : Array (Option Value)} {x : Str}
    (lk : Z.K.lookup (Z.fa li) = some ⟨oc, od, .func fd, osl⟩) (hx : ∃ y, Z.tx.fns[li]? = some (y, [x])) : FnOk Z.P Z.w Z.K Z.mg Z.base (L2.CX Z.P Z.w) (n + 2) (Z.fa li) fd [x] (spL Z) := by
  refine ⟨fun vs H Q E h => ?_, fun A outer sh H args us vs Q E hr e0 hb hv h => ?_⟩
  · obtain ⟨a, ns, rfl, _⟩ := h
    rfl
  · obtain ⟨a, ns, rfl, h1, h2, h3, h4, h5⟩ := h
    have g := good ns h1 h2
    have hRd : L2.Rd H a (.lst (ns.map V.int)) := by
      rcases h4 with z | ⟨ob, _, _, z1, z2, _⟩
      · exact z
      · exact absurd z2 (hnl a ob z1)
    rcases hRd with z | ⟨o, z⟩
    · -- the script's list may be written: it is not
      obtain ⟨hz, its, nn, hvals, hget⟩ := e0.hok a _ z
      obtain ⟨ob, hob⟩ : ∃ ob : Obj, ob = { cls := .type "list", data := .seq its.toArray nn } := ⟨_, rfl⟩
      rw [← hob] at hget
      obtain ⟨H', hH'⟩ : ∃ H' : Hp, H' = upd H a (.frz ob (.lst (ns.map V.int))) := ⟨_, rfl⟩
      have off : ∀ b, b ≠ a → H' b = H b := fun b hb => by rw [hH', upd_ne hb]
      have at_ : H' a = some (.frz ob (.lst (ns.map V.int))) := by rw [hH', upd_same]
      have neq : ∀ b u, H b = some u → u ≠ .lst (ns.map V.int) → b ≠ a := fun b u e ne q => by rw [q, z] at e; exact ne (Option.some.inj e).symm
      have nnone : ∀ b, H b = none → b ≠ a := fun b e q => by rw [q, z] at e; cases e
      have e1 : Env0 Z.P Z.w Z.K Z.mg Z.base A outer sh H' := ⟨e0.frames, e0.mod, fun b o q => ⟨(e0.bs b o q).1, by rw [off b (nnone b (e0.bs b o q).2)]; exact (e0.bs b o q).2⟩, e0.bsz, e0.funs, fun b hb => by rw [off b (nnone b (e0.frf b hb))]; exact e0.frf b hb, fun b u e => by
          by_cases hb : b = a
          · subst hb
            rw [at_] at e
            cases e
            exact ⟨hget, hz, its, nn, hvals, by rw [← hob]; exact hget⟩
          · rw [off b hb] at e
            exact (e0.hok b u e).stay (fun c v _ q => q) (fun c q => by rw [off c (neq c _ q fun z => by cases z)]; exact q) fun c xs q => by rw [off c (neq c _ q fun z => by cases z)]; exact q, e0.bare⟩
      have hT' : LamX.Tabs Z.T H' := fun p hp => by
        obtain ⟨ps, q1, q2, q3⟩ := h3 p hp
        refine ⟨ps, by rw [off _ (neq _ _ q1 fun z => by cases z)]; exact q1, q2, fun pos cv hc => ?_⟩
        obtain ⟨c, q4, q5⟩ := q3 pos cv hc
        exact ⟨c, q4, by rw [off _ (neq _ _ q5 fun z => by unfold LamX.CodeO at z; cases z)]; exact q5⟩
      refine codeAny_mono (law_core (E := E) F hF hst hnp g lk hx hr e1 hb hv hT' at_ h5) fun rr s' hh => ?_
      cases rr with
      | error er =>
        obtain ⟨ae, B, H3, cls, d, q1, q2, q3, ub, q4, q5, q6, q7⟩ := (show L2.CX Z.P Z.w outer H' sh E er s' from hh)
        exact ⟨ae, B, H3, cls, d, q1, q2, q3, ⟨fun b o e n hb => ub.keep b o e (by rw [off b (nnone b n)]; exact n) hb, ub.slot, fun b o e n => ub.free b o e (by rw [off b (nnone b n)]; exact n), ub.there, fun b xs e => ub.tups b xs (by rw [off b (neq b _ e fun z => by cases z)]; exact e), fun b o xs e => ub.frzs b o xs (by rw [off b (neq b _ e fun z => by cases z)]; exact e), fun b ps e => ub.tbls b ps (by rw [off b (neq b _ e fun z => by cases z)]; exact e)⟩, q4, q5, q6, q7⟩
      | ok fl =>
        cases fl with
        | ret u =>
          obtain ⟨v, H3, q1, q2, q3, q4, q5, q6⟩ := (show L2.CE outer Z.P Z.w H' sh Q u s' from hh)
          refine ⟨v, H3, q1, q2, ⟨fun b o e n hb hx => q3.keep b o e (by rw [off b (nnone b n)]; exact n) hb hx, fun b o e n hb hx => q3.slot b o e (by rw [off b (nnone b n)]; exact n) hb hx, fun b o e n hx => q3.free b o e (by rw [off b (nnone b n)]; exact n) hx, q3.there, fun b xs e => q3.tups b xs (by rw [off b (neq b _ e fun z => by cases z)]; exact e), fun b o xs e => q3.frzs b o xs (by rw [off b (neq b _ e fun z => by cases z)]; exact e), fun b ps e => q3.tbls b ps (by rw [off b (neq b _ e fun z => by cases z)]; exact e)⟩, q4, q5, q6⟩
        | next => exact False.elim hh
        | brk => exact False.elim hh
        | cont => exact False.elim hh
    · exact law_core F hF hst hnp g lk hx hr e0 hb hv h3 z h5
end
end Ev
/-! EvS: from a law's tables to the end of its row. -/
namespace Ev
open PySem PySem.Spec PyProof.Rows
open L2 (V HO Hp SqL Sp FnOk)
section
variable {T : LT} {l : PySem.W.OpenLaw} {w : World} {K : PySem.W.Frag} {mg : Str → Option Value} {fa : Addr} {h : Heap} {n li : Nat} {x : Str} {FL : Fn}
theorem law_at (O : T.Ok) (X : K.In h) (G : h.Ns mainGlobals mg) (S : He.SaysX T.fa T.fn [] T.tf (exB T) w h K) (hli : T.tx.fns[li]? = some (("law" : Str), [x])) (hmg : mg ("law" : Str) = some (.ref fa)) (hF : T.fns[li]? = some FL) (hst : FL ≠ ⟨0, 0, [], .cons .brk .nil⟩) (good : Good T.pg (n + 1) li) :
    LamX.LawAtS l w K (L2.CX l.prog w) (n + 2) 63 x mg fa h := by
  have D := S.t.d
  have hlt : li < T.dis.length := by rw [O.fns.1, ← O.fns.2]; exact (List.getElem?_eq_some_iff.mp hli).1
  have efa : fa = He.ga K ("law" : Str) := by
    have := He.glo_ok X G (D.facts (f := .glo "law") (by
      unfold LT.fa
      exact List.mem_append_left _ (List.mem_append_left _ (List.mem_map.mpr ⟨_, List.mem_of_getElem? hli, rfl⟩))))
    rw [hmg] at this
    cases this
    rfl
  rcases O.df li _ (List.getElem?_eq_getElem hlt) with z | ⟨hm, hb, nm, a, b, sc, bd, ps, hs, hfn, _⟩
  · rw [hF] at z
    exact absurd (Option.some.inj z) hst
  · obtain ⟨d, hd⟩ : ∃ d, d = T.dis[li] := ⟨_, rfl⟩
    rw [← hd] at hm hb hs
    rw [hli] at hfn
    have hfn := Option.some.inj hfn
    obtain ⟨e1, e2⟩ := Prod.mk.inj hfn
    obtain ⟨fd, FD⟩ := D.defs (d := defD d) (by unfold LT.fn; exact List.mem_append_left _ (List.mem_map.mpr ⟨d, by rw [hd]; exact List.getElem_mem hlt, rfl⟩))
    have hdd : defD d = ⟨(nm, none), nm, nm, a, b, sc, [], []⟩ := by unfold defD; rw [hs]
    rw [hdd] at FD
    obtain ⟨oc, od, dV, kV, doc, pm, an, cdv, ct, osl, h1, h2, h3, h4, h5⟩ := FD.ex
    have hdV : dV = .none := by
      rcases h4 with z | z
      · exact z.2
      · exact absurd rfl z.1
    have h2 : K.lookup (He.ga K nm) = some ⟨oc, od, .func fd, osl⟩ := h2
    rw [← e1] at h2
    unfold diB at hb
    rw [hs] at hb
    simp only [Bool.and_eq_true, decide_eq_true_eq, Bool.not_eq_true', List.all_eq_true, Bool.or_eq_true, beq_iff_eq] at hb
    obtain ⟨⟨⟨⟨⟨⟨⟨⟨⟨b1, b2⟩, b3⟩, b4⟩, b5⟩, b6⟩, b7⟩, b8⟩, b9⟩, b10⟩ := hb
    have hps : paramsOf a = [x] := e2.symm
    have ex := S.more
    unfold exB at ex
    simp only [Bool.and_eq_true, decide_eq_true_eq] at ex
    obtain ⟨⟨⟨⟨x1, x2⟩, x3⟩, x4⟩, x5⟩ := ex
    have hnl : ∀ b o, K.lookup b = some o → o.cls ≠ .type "list" := fun b o q z => by
      have := List.all_eq_true.mp x4 _ (He.lookup_mem q)
      rw [show (b, o).2.cls = Value.type "list" from z] at this
      exact absurd this (by decide)
    have hnp : FL.np = 1 := by
      rw [hF] at hm
      unfold mkFn at hm
      rw [hs] at hm
      simp only at hm
      cases hbd : trSs 60 ⟨T.tx, d.N, sc, d.lams, d.cs⟩ b with
      | none => rw [hbd] at hm; cases hm
      | some cb =>
        rw [hbd] at hm
        have hm : (⟨a.args.length, d.N.length, cellsOf ⟨T.tx, d.N, sc, d.lams, d.cs⟩ sc, cb⟩ : Fn) = FL := Option.some.inj hm
        rw [← hm]
        have := congrArg List.length hps
        unfold paramsOf at this
        rw [List.length_map] at this
        exact this
    refine ⟨fd, T.tf.map (He.cT K), fun vs H Q E => spL (T.z l.prog w K mg h) vs H Q E, fun p hp => ?_, fun p hp => ?_, fun p hp => ?_, fun s u => ?_, fun H a' ns hl hbits hTb hS => ?_, fun base XB GB hTab => ?_⟩
    · obtain ⟨q, hq, rfl⟩ := List.mem_map.mp hp
      exact S.empty q hq
    · obtain ⟨q, hq, rfl⟩ := List.mem_map.mp hp
      exact S.out q hq
    · obtain ⟨q, hq, rfl⟩ := List.mem_map.mp hp
      exact PySem.W.codeHd_of_K X (S.hd q hq)
    · rw [h1, hdV]
      refine BindsTo.of_eq ?_
      refine (bind_plain (fd := PySem.W.fnOf nm nm a b sc .none kV doc pm an cdv ct) (us := [u]) b8 rfl ?_ (by rw [show (PySem.W.fnOf nm nm a b sc .none kV doc pm an cdv ct).params = a from rfl, hps] <;> rfl)).trans ?_
      · show (paramsOf a).Nodup
        rw [hps]
        simp
      · rw [show (PySem.W.fnOf nm nm a b sc .none kV doc pm an cdv ct).params = a from rfl, hps] <;> rfl
    · refine ⟨a', ns, rfl, hl, hbits, fun p hp => ?_, hS, fun _ => rfl⟩
      obtain ⟨q, hq, rfl⟩ := List.mem_map.mp hp
      exact LamX.TabS.nil (hTb _ (List.mem_map.mpr ⟨q, hq, rfl⟩))
    · have FU := full_of (P := l.prog) O XB GB S hTab
      have hfa : (T.z l.prog w K mg base).fa li = fa := by
        rw [efa]
        show He.ga K (fnAt T li) = _
        unfold fnAt
        rw [hli] <;> rfl
      have := law_ok (Z := T.z l.prog w K mg base) (n := n) (li := li) FU hF hst hnp good hnl (x := x) (by rw [hfa, efa]; exact h2) ⟨_, hli⟩
      rw [hfa] at this
      exact this.imp fun vs H Q E q => q
end
end Ev
/-! EvT: a draw from the stream. -/
namespace Ev
open PySem
/-- the places 1 and 2 of a trie -/
def up12 (t : Tr O) (x y : Option O) : Tr O := (t.put 1 x).put 2 y
theorem up12_1 (t : Tr O) (x y : Option O) : (up12 t x y).get 1 = x := by
  unfold up12
  rw [Tr.get_put_ne _ _ (by decide), Tr.get_put_same]
theorem up12_2 (t : Tr O) (x y : Option O) : (up12 t x y).get 2 = y := by
  unfold up12
  rw [Tr.get_put_same]
theorem up12_put1 (t : Tr O) (x y z : Option O) : (up12 t x y).put 1 z = up12 t z y := by
  cases t with
  | nil => rfl
  | node w l r => cases l <;> cases r <;> rfl
theorem up12_put2 (t : Tr O) (x y z : Option O) : (up12 t x y).put 2 z = up12 t x z := by
  cases t with
  | nil => rfl
  | node w l r => cases l <;> cases r <;> rfl
theorem up12_id {t : Tr O} {x y : O} (h1 : t.get 1 = some x) (h2 : t.get 2 = some y) : up12 t (some x) (some y) = t := by
  cases t with
  | nil => cases h1
  | node w l r =>
    have h1 : l.get 0 = some x := h1
    have h2 : r.get 0 = some y := h2
    cases l with
    | nil => cases h1
    | node a b c =>
      cases r with
      | nil => cases h2
      | node d e f =>
        have h1 : a = some x := h1
        have h2 : d = some y := h2
        subst h1 h2
        rfl
/-- the stream stands at 2, its cells at 1 -/
def st2 (s : S) (zs : List Int) (a b c : Int) : S := { s with h := up12 s.h (some (.lst (zs.map .int))) (some (.lst [.ref 1, .int a, .int b, .int c])) }
section
variable {s : S} {zs zs' : List Int} {a b c a' b' c' m : Int} {cF : Nat → List D → S → R D} {cV : D → List D → S → R D} {cls : List (Option Nat × List Str)}
theorem lst1 : (st2 s zs a b c).lstAt 1 = some (zs.map .int) := by unfold S.lstAt st2; simp only [up12_1]
theorem lst2 : (st2 s zs a b c).lstAt 2 = some [.ref 1, .int a, .int b, .int c] := by unfold S.lstAt st2; simp only [up12_2]
theorem mut1 : (st2 s zs a b c).lstMut 1 = some (zs.map .int) := by unfold S.lstMut st2; simp only [up12_1]
theorem mut2 : (st2 s zs a b c).lstMut 2 = some [.ref 1, .int a, .int b, .int c] := by unfold S.lstMut st2; simp only [up12_2]
theorem set1 : (st2 s zs a b c).set 1 (.lst (zs'.map .int)) = st2 s zs' a b c := by unfold S.set st2; simp only [up12_put1]
theorem set2 : (st2 s zs a b c).set 2 (.lst [.ref 1, .int a', .int b', .int c']) = st2 s zs a' b' c' := by unfold S.set st2; simp only [up12_put2]
theorem idx0 : idxW (st2 s zs a b c) (.ref 2) (.int 0) = .ok (.ref 1) (st2 s zs a b c) := by unfold idxW seqOf; simp only [lst2]; rfl
theorem idx1 : idxW (st2 s zs a b c) (.ref 2) (.int 1) = .ok (.int a) (st2 s zs a b c) := by unfold idxW seqOf; simp only [lst2]; rfl
theorem idx2 : idxW (st2 s zs a b c) (.ref 2) (.int 2) = .ok (.int b) (st2 s zs a b c) := by unfold idxW seqOf; simp only [lst2]; rfl
theorem idx3 : idxW (st2 s zs a b c) (.ref 2) (.int 3) = .ok (.int c) (st2 s zs a b c) := by unfold idxW seqOf; simp only [lst2]; rfl
theorem sets1 : setW (st2 s zs a b c) (.ref 2) (.int 1) (.int a') = .ok () (st2 s zs a' b c) := by
  unfold setW; simp only [mut2]; exact congrArg (R.ok ()) set2
theorem sets2 : setW (st2 s zs a b c) (.ref 2) (.int 2) (.int b') = .ok () (st2 s zs a b' c) := by
  unfold setW; simp only [mut2]; exact congrArg (R.ok ()) set2
theorem sets3 : setW (st2 s zs a b c) (.ref 2) (.int 3) (.int c') = .ok () (st2 s zs a b c') := by
  unfold setW; simp only [mut2]; exact congrArg (R.ok ()) set2
theorem toD_ints (s : S) (f : Nat) : ∀ zs : List Int, mapO (toD s (f + 1)) (zs.map .int) = some (zs.map PyData.int)
  | [] => rfl
  | z :: zs => by rw [List.map_cons]; unfold mapO; rw [toD_ints s f zs]; rfl
theorem nil1 : nilW .ne (st2 s zs a b c) (.ref 1) = .ok (.bl (!zs.isEmpty)) (st2 s zs a b c) := by
  unfold nilW
  have : toD (st2 s zs a b c) 40 (.ref 1) = some (.list (zs.map .int)) := by
    rw [toD]
    simp only [lst1]
    rw [toD_ints]
    rfl
  rw [this]
  cases zs <;> rfl
theorem isl1 : isLst (st2 s zs a b c) (.ref 1) = true := by unfold isLst; simp only [lst1]; rfl
theorem noEx_ok {α : Type} {x : α} : (R.ok x s).noEx = .ok x s := rfl
theorem pop1 {z : Int} : meW .pop (st2 s (z :: zs) a b c) (.ref 1) [.int 0] = .ok (.int z) (st2 s zs a b c) := by
  unfold meW
  simp only [mut1]
  unfold meL
  have h : ixN ((z :: zs).map D.int).length 0 = some 0 := by
    unfold ixN
    have : decide ((0 : Int) < (((z :: zs).map D.int).length : Nat)) = true := by simp
    rw [this] <;> rfl
  simp only [h]
  exact congrArg (R.ok (D.int z)) set1
/-- the drawing loop's test and body -/
def drT : E := .and (.cmp .eq (.idx (.var 0) (.int 1)) (.int 0)) (.nilc .ne (.idx (.var 0) (.int 0)))
def drB : Ss := .cons (.asg (.nm (.v 2)) (.bu .abs (.me .pop (.idx (.var 0) (.int 0)) (.cons (.int 0) .nil))))
  (.cons (.asg (.sub (.var 0) (.int 3)) (.bin .mod (.bu .int (.bin .add (.bin .add (.bin .mul (.idx (.var 0) (.int 3)) (.int 8191)) (.var 2)) (.int 3))) (.int 2147483647)))
  (.cons (.asg (.sub (.var 0) (.int 1)) (.ite (.cmp .ge (.var 2) (.bin .pow (.int 10) (.int 18))) (.var 2) (.int 0))) .nil))
def drFn : Fn := ⟨2, 5, [], .cons (.asg (.sub (.var 0) (.int 2)) (.bin .add (.idx (.var 0) (.int 2)) (.int 1)))
  (.cons (.whl drT drB)
  (.cons (.ite (.cmp .gt (.idx (.var 0) (.int 1)) (.int 0)) (.cons (.asg (.nm (.v 3)) (.bin .mod (.bu .int (.idx (.var 0) (.int 1))) (.var 1)))
    (.cons (.asg (.sub (.var 0) (.int 1)) (.bin .fdiv (.idx (.var 0) (.int 1)) (.var 1)))
    (.cons (.ret (.var 3)) .nil))) .nil)
  (.cons (.asg (.nm (.v 4)) (.bin .mod (.bu .int (.bin .pow (.bin .add (.bin .add (.idx (.var 0) (.int 3)) (.bin .mul (.int 7919) (.idx (.var 0) (.int 2)))) (.int 104729)) (.int 5))) (.int 2147483629)))
  (.cons (.ret (.bin .mod (.bin .mod (.bu .int (.bin .pow (.bin .add (.bin .add (.bin .mul (.var 4) (.int 48271)) (.bin .mul (.int 30011) (.idx (.var 0) (.int 2)))) (.int 29)) (.int 3))) (.int 1000000007)) (.var 1)))
  .nil))))⟩
/-- the frame -/
def drE (m : Int) (x y z : Option D) : Env := ⟨[some (.ref 2), some (.int m), x, y, z], [none, none, none, none, none]⟩
theorem fg0 {x y z} : (drE m x y z).get 0 = some (.ref 2) := rfl
theorem fg1 {x y z} : (drE m x y z).get 1 = some (.int m) := rfl
theorem fg2 {x y z} : (drE m (some x) y z).get 2 = some x := rfl
theorem fg3 {x y z} : (drE m x (some y) z).get 3 = some y := rfl
theorem fg4 {x y z} : (drE m x y (some z)).get 4 = some z := rfl
theorem fp2 {x y z w} : (drE m x y z).put 2 w s = .ok (drE m (some w) y z) s := rfl
theorem fp3 {x y z w} : (drE m x y z).put 3 w s = .ok (drE m x (some w) z) s := rfl
theorem fp4 {x y z w} : (drE m x y z).put 4 w s = .ok (drE m x y (some w)) s := rfl
theorem eq_int {i j : Int} : eqW s (.int i) (.int j) = some (i == j) := rfl
theorem dr_test {x y z} : (evE cF cV drT (drE m x y z) (st2 s zs a b c)).bind (fun x s => truthR s x) = .ok ((a == 0) && !zs.isEmpty) (st2 s zs a b c) := by
  unfold drT
  simp only [evE, fg0, ofO, R.bind_ok, idx1, cmpW, eq_int]
  cases h : a == 0
  · simp [truthR, truth]
  · simp only [truthR, truth, R.bind_ok, cond_true, idx0, nil1, Bool.true_and]
theorem bits_lt {c : Int} (h : 0 ≤ c) (h2 : c < 2147483647) : bits c < 31 := by
  unfold bits
  rcases Nat.eq_zero_or_pos c.natAbs with z | z
  · rw [z]; decide
  · exact (Nat.log2_lt (by omega)).mpr (by omega)
theorem lt_blt {i j : Nat} (h : i < j) : Nat.blt i j = true := Nat.ble_eq.mpr (Nat.succ_le_of_lt h)
theorem bin_add {i j : Int} : binW .add s (.int i) (.int j) = .ok (.int (i + j)) s := rfl
theorem bin_mul {i j : Int} (h : bits i + bits j < 1000000) : binW .mul s (.int i) (.int j) = .ok (.int (i * j)) s := by
  unfold binW
  simp only [lt_blt h, cond_true]
theorem bin_mod {i j : Int} (h : 0 < j) : binW .mod s (.int i) (.int j) = .ok (.int (i % j)) s := by
  unfold binW
  simp only [decide_eq_true h, cond_true]
theorem bin_fdiv {i j : Int} (h : 0 < j) (h2 : bits j < 9000) : binW .fdiv s (.int i) (.int j) = .ok (.int (i / j)) s := by
  unfold binW
  simp only [decide_eq_true h, lt_blt h2, Bool.and_self, cond_true]
theorem bin_pow {i : Int} {j : Int} (h : 0 ≤ j) (h1 : j ≤ 1000000) (h2 : i.natAbs < 2 ^ 64) : binW .pow s (.int i) (.int j) = .ok (.int (i ^ j.toNat)) s := by
  unfold binW
  simp only [decide_eq_true h, decide_eq_true h1, lt_blt h2, Bool.and_self, cond_true]
theorem tr_bl {k : Bool} : truthR s (.bl k) = .ok k s := rfl
theorem cmp_gt {i j : Int} : cmpW .gt s (.int i) (.int j) = .ok (.bl (decide (j < i))) s := rfl
theorem bu_int {i : Int} : buW .int s (.int i) = .ok (.int i) s := rfl
theorem bu_abs {i : Int} : buW .abs s (.int i) = .ok (.int (bif decide (i < 0) then -i else i)) s := rfl
theorem dr_body {x y z} {w : Int} (h0 : 0 ≤ c) (h1 : c < 2147483647) : ∃ x' a' c', evSs cF cV cls drB (drE m x y z) (st2 s (w :: zs) a b c) = .ok (.nx (drE m x' y z)) (st2 s zs a' b c') ∧ 0 ≤ a' ∧ 0 ≤ c' ∧ c' < 2147483647 := by
  obtain ⟨v, hv⟩ : ∃ v : Int, v = bif decide (w < 0) then -w else w := ⟨_, rfl⟩
  have v0 : 0 ≤ v := by
    rw [hv]
    cases h : decide (w < 0)
    · have := of_decide_eq_false h; simp only [cond_false]; omega
    · have := of_decide_eq_true h; simp only [cond_true]; omega
  have hm : bits c + bits 8191 < 1000000 := by have := bits_lt h0 h1; have : bits 8191 = 12 := by decide
                                               omega
  have hp : binW .pow (st2 s zs a b ((c * 8191 + v + 3) % 2147483647)) (.int 10) (.int 18) = .ok (.int (10 ^ 18)) (st2 s zs a b ((c * 8191 + v + 3) % 2147483647)) := bin_pow (by decide) (by decide) (by decide)
  obtain ⟨a', ha, a0⟩ : ∃ a' : Int, a' = (bif decide ((10 : Int) ^ 18 ≤ v) then v else 0) ∧ 0 ≤ a' := ⟨_, rfl, by cases decide ((10 : Int) ^ 18 ≤ v) <;> simp [v0]⟩
  refine ⟨some (.int v), a', (c * 8191 + v + 3) % 2147483647, ?_, a0, Int.emod_nonneg _ (by decide), Int.emod_lt_of_pos _ (by decide)⟩
  unfold drB
  simp only [evSs, evS, evE, evEs, fg0, fg2, ofO, R.bind_ok, idx0, idx1, idx3, isl1, cond_true, noEx_ok, pop1, bu_abs, ← hv, putTg, putNt, fp2, bin_mul hm, bin_add, bu_int, bin_mod (show (0 : Int) < 2147483647 by decide), sets3, hp, cmpW, truthR, truth]
  cases h : decide ((10 : Int) ^ 18 ≤ v)
  · rw [h] at ha
    simp only [cond_false, R.bind_ok, sets1, noEx_ok]
    rw [ha] <;> rfl
  · rw [h] at ha
    simp only [cond_true, R.bind_ok, sets1, noEx_ok]
    rw [ha] <;> rfl
theorem dr_loop {y z} : ∀ (zs : List Int) (f : Nat) (x : Option D) (a c : Int), zs.length < f → 0 ≤ a → 0 ≤ c → c < 2147483647 →
    ∃ x' zs' a' c', whlLoop (fun e s => (evE cF cV drT e s).bind fun x s => truthR s x) (fun e s => evSs cF cV cls drB e s) f (drE m x y z) (st2 s zs a b c) = .ok (.nx (drE m x' y z)) (st2 s zs' a' b c') ∧ 0 ≤ a' ∧ 0 ≤ c' ∧ c' < 2147483647 ∧ zs'.length ≤ zs.length
  | zs, 0, _, _, _, h, _, _, _ => absurd h (Nat.not_lt_zero _)
  | [], f + 1, x, a, c, h, h0, h1, h2 => by
    refine ⟨x, [], a, c, ?_, h0, h1, h2, Nat.le_refl _⟩
    rw [whlLoop, dr_test]
    simp
  | w :: zs, f + 1, x, a, c, h, h0, h1, h2 => by
    rw [whlLoop, dr_test]
    cases ha : a == 0
    · exact ⟨x, w :: zs, a, c, by simp, h0, h1, h2, Nat.le_refl _⟩
    · obtain ⟨x1, a1, c1, e1, e2, e3, e4⟩ := dr_body (s := s) (zs := zs) (a := a) (b := b) (m := m) (cF := cF) (cV := cV) (cls := cls) (x := x) (y := y) (z := z) (w := w) h1 h2
      obtain ⟨x2, zs2, a2, c2, k1, k2, k3, k4, k5⟩ := dr_loop (y := y) (z := z) zs f x1 a1 c1 (by simpa using h) e2 e3 e4
      refine ⟨x2, zs2, a2, c2, ?_, k2, k3, k4, Nat.le_succ_of_le k5⟩
      simp only [List.isEmpty_cons, Bool.not_false, Bool.and_true, R.bind_ok, cond_true, e1]
      exact k1
/-- a draw: a number below m, the stream elsewhere -/
theorem draw_ok {P : Pg} {f k : Nat} (hf : P.fns[f]? = some drFn) (hm : 0 < m) (hb : bits m < 9000) (h0 : 0 ≤ a) (h1 : 0 ≤ b) (h2 : b < 1048576) (h3 : 0 ≤ c) (h4 : c < 2147483647) (hz : zs.length < 1048576) :
    ∃ r zs' a' c', callF P (k + 1) f [.ref 2, .int m] (st2 s zs a b c) = .ok (.int r) (st2 s zs' a' (b + 1) c') ∧ 0 ≤ r ∧ r < m ∧ 0 ≤ a' ∧ 0 ≤ c' ∧ c' < 2147483647 ∧ zs'.length ≤ zs.length := by
  rw [callF, hf]
  simp only [show drFn.np = 2 from rfl, List.length_cons, List.length_nil, show Nat.beq (0 + 1 + 1) 2 = true from rfl, cond_true]
  rw [show enter drFn [.ref 2, .int m] (st2 s zs a b c) = (drE m none none none, st2 s zs a b c) from rfl]
  obtain ⟨x1, zs1, a1, c1, e1, e2, e3, e4, e5⟩ := dr_loop (cF := callF P k) (cV := callV P k) (cls := P.cls) (s := s) (b := b + 1) (m := m) (y := none) (z := none) zs most none a c (by unfold most; omega) h0 h3 h4
  unfold drFn
  simp only [evSs, evS, evE, evEs, fg0, fg1, ofO, R.bind_ok, idx0, idx1, idx2, idx3, bin_add, putTg, noEx_ok, sets2, e1, cmp_gt, tr_bl]
  by_cases ha : 0 < a1
  · simp only [decide_eq_true ha, cond_true, bu_int, bin_mod hm, putNt, fp3, noEx_ok, R.bind_ok, fg0, fg1, fg3, bin_fdiv hm hb, idx1, sets1]
    exact ⟨a1 % m, zs1, a1 / m, c1, rfl, Int.emod_nonneg _ (by omega), Int.emod_lt_of_pos _ hm, Int.ediv_nonneg e2 (by omega), e3, e4, e5⟩
  · have hbb : bits (b + 1) < 25 := by
      unfold bits
      exact (Nat.log2_lt (by omega)).mpr (by omega)
    have k1 : bits 7919 + bits (b + 1) < 1000000 := by have : bits 7919 = 12 := by decide
                                                       omega
    have k2 : bits 30011 + bits (b + 1) < 1000000 := by have : bits 30011 = 14 := by decide
                                                        omega
    obtain ⟨M, hM⟩ : ∃ M : Int, M = (c1 + 7919 * (b + 1) + 104729) ^ (5 : Int).toNat % 2147483629 := ⟨_, rfl⟩
    have M0 : 0 ≤ M := by rw [hM]; exact Int.emod_nonneg _ (by decide)
    have M1 : M < 2147483629 := by rw [hM]; exact Int.emod_lt_of_pos _ (by decide)
    have k3 : bits M + bits 48271 < 1000000 := by have := bits_lt M0 (by omega)
                                                  have : bits 48271 = 15 := by decide
                                                  omega
    have p1 : ∀ s : S, binW .pow s (.int (c1 + 7919 * (b + 1) + 104729)) (.int 5) = .ok (.int ((c1 + 7919 * (b + 1) + 104729) ^ (5 : Int).toNat)) s := fun s => bin_pow (by decide) (by decide) (by omega)
    have p2 : ∀ s : S, binW .pow s (.int (M * 48271 + 30011 * (b + 1) + 29)) (.int 3) = .ok (.int ((M * 48271 + 30011 * (b + 1) + 29) ^ (3 : Int).toNat)) s := fun s => bin_pow (by decide) (by decide) (by omega)
    simp only [decide_eq_false ha, cond_false, R.bind_ok, fg0, fg1, idx3, idx2, bin_mul k1, bin_add, p1, bu_int, bin_mod (show (0 : Int) < 2147483629 by decide), ← hM, putNt, fp4, noEx_ok, fg4, bin_mul k3, bin_mul k2, p2, bin_mod (show (0 : Int) < 1000000007 by decide), bin_mod hm]
    exact ⟨_, zs1, a1, c1, rfl, Int.emod_nonneg _ (by omega), Int.emod_lt_of_pos _ hm, e2, e3, e4, e5⟩
end
theorem st2_id {s : S} {ns : List Int} {a b c : Int} (h1 : s.h.get 1 = some (.lst (ns.map .int))) (h2 : s.h.get 2 = some (.lst [.ref 1, .int a, .int b, .int c])) : st2 s ns a b c = s := by
  unfold st2
  rw [up12_id h1 h2]
/-! ### reading an end -/
def okT : R D → Bool
  | .ok (.bl true) _ => true
  | _ => false
theorem okT_ok : ∀ {r : R D}, okT r = true → ∃ s', r = .ok (.bl true) s'
  | .ok (.bl true) s, _ => ⟨s, rfl⟩
  | .ok (.bl false) _, h => by cases h
  | .ok .non _, h => by cases h
  | .ok (.int _) _, h => by cases h
  | .ok (.str _) _, h => by cases h
  | .ok (.ref _) _, h => by cases h
  | .ok (.tup _) _, h => by cases h
  | .ex _ _ _, h => by cases h
  | .bad, h => by cases h
def R.st {α : Type} (d : S) : R α → S
  | .ok _ s => s
  | _ => d
def R.vl (d : D) : R D → D
  | .ok w _ => w
  | _ => d
def R.nxE (d : Env) : R Fl → Env
  | .ok (.nx e) _ => e
  | _ => d
def R.isV : R D → Bool
  | .ok _ _ => true
  | _ => false
def R.isN : R Fl → Bool
  | .ok (.nx _) _ => true
  | _ => false
theorem isV_ok {d : D} {s : S} : ∀ {r : R D}, r.isV = true → r = .ok (r.vl d) (r.st s)
  | .ok _ _, _ => rfl
  | .ex _ _ _, h => by cases h
  | .bad, h => by cases h
theorem isN_ok {e : Env} {s : S} : ∀ {r : R Fl}, r.isN = true → r = .ok (.nx (r.nxE e)) (r.st s)
  | .ok (.nx _) _, _ => rfl
  | .ok (.rt _) _, h => by cases h
  | .ok (.bk _) _, h => by cases h
  | .ok (.ct _) _, h => by cases h
  | .ex _ _ _, h => by cases h
  | .bad, h => by cases h
def Ss.hd : Ss → St
  | .cons s _ => s
  | _ => .no
def Ss.tl : Ss → Ss
  | .cons _ r => r
  | _ => .nil
section
variable {cF : Nat → List D → S → R D} {cV : D → List D → S → R D} {cls : List (Option Nat × List Str)} {st st' : St} {r : Ss} {en en' : Env} {s s' : S}
theorem ss_step (h : evS cF cV cls st en s = .ok (.nx en') s') : evSs cF cV cls (.cons st r) en s = evSs cF cV cls r en' s' := by
  rw [evSs, h]; rfl
theorem ss_same (h : evS cF cV cls st en s = evS cF cV cls st' en' s') : evSs cF cV cls (.cons st r) en s = evSs cF cV cls (.cons st' r) en' s' := by
  rw [evSs, evSs, h]
/-- t = a o b, a's value known -/
def asgB (cF : Nat → List D → S → R D) (cV : D → List D → S → R D) (o : Bo) (t : Tg) (v : D) (b : E) (en : Env) (s : S) : R Fl := ((evE cF cV b en s).bind fun y s => binW o s v y).bind fun w s => (putTg cF cV t en s w).noEx.bind fun en s => .ok (.nx en) s
def goOn (cF : Nat → List D → S → R D) (cV : D → List D → S → R D) (cls : List (Option Nat × List Str)) (r : Ss) (f : Fl) (s : S) : R Fl := match f with
  | .nx en => evSs cF cV cls r en s
  | f => .ok f s
theorem ss_asgB {o : Bo} {t : Tg} {a b b' : E} {v : D} {s'' : S} (h : evE cF cV a en s = .ok v s') (h2 : evE cF cV b en s' = evE cF cV b' en s'') : evSs cF cV cls (.cons (.asg t (.bin o a b)) r) en s = (asgB cF cV o t v b' en s'').bind (goOn cF cV cls r) := by
  rw [evSs, evS, evE, h]
  simp only [R.bind_ok, h2]
  unfold asgB
  rfl
end
end Ev
namespace Ev
open PySem
abbrev PW : Program := PySem.Challenge.pw_spacedrows_k77_two_ways_refused
def topS (i : Nat) : Stmt := PW.main.body.getD i (.Pass ⟨0, 0, 0, 0⟩)
def clsN : List (Str × List Str) := [("RowError", []), ("BadOne", ["one"]), ("BadOther", ["other"]), ("BadTwo", ["table"]), ("BadDeterminant", ["determinant"])]
def clsP : List (Option Nat × List Str) := [(none, []), (some 0, ["one"]), (some 0, ["other"]), (some 0, ["table"]), (some 0, ["determinant"])]
def fnsN : List (Str × List Str) := ([("is_list", ["thing"]), ("is_whole", ["thing"]), ("is_row", ["thing", "many"]), ("kept_square", ["thing"]), ("size_of", ["rows"]), ("first_minors", ["square"]), ("kept_table", ["thing"]), ("times_by", ["square", "one", "other"]), ("told_square", ["square"]), ("led_by", ["row", "rows"]), ("behind_by", ["one", "other"]), ("rest_of", ["rows", "place", "column"]), ("adjoint_of", ["rows"]), ("undone_by", ["change"]), ("changed_by", ["table", "rows"]), ("common_divisor", ["one", "other"]), ("reduced", ["above", "below"]), ("kept_two", ["thing"]), ("need_two", ["table"]), ("led_two", ["table"])] : List (Str × List Str))
  ++ ([("settled_two", ["table"]), ("two_alike", ["one", "other"]), ("sort_by", ["first"]), ("sort_two", ["table"]), ("small_changes", []), ("own_changes_two", ["table"]), ("all_settled", ["determinant"]), ("need_settled", ["determinant"]), ("settled_of", ["determinant"]), ("classes_of", ["determinant"]), ("even_classes", ["determinant"]), ("least_two", ["table"]), ("angle_two", ["table"]), ("_law_stream", ["script"]), ("_law_draw", ["stream", "many"]), ("_law_same", ["found", "due"]), ("_law_is_very", ["word", "ask"]), ("_law_unit", ["many"]), ("_law_all_refused", ["word", "odds", "asks"]), ("_law_odd_tables", [])] : List (Str × List Str))
  ++ ([("_law_met", ["ask"]), ("law", ["script"])] : List (Str × List Str))
def txT : Tx := ⟨fnsN, clsN, [(25, 0, ["table"]), (21, 0, ["other", "one"])]⟩
def di0 : Di := ⟨topS 1, ["thing"], [], []⟩
def di1 : Di := ⟨topS 2, ["thing"], [], []⟩
def di2 : Di := ⟨topS 3, ["thing", "many"], [], []⟩
def di3 : Di := ⟨topS 9, ["thing", "found", "row", "one"], [], []⟩
def di4 : Di := ⟨topS 10, ["rows", "left", "sign", "last", "place", "picks", "head", "index", "lead", "row", "one", "other"], [], []⟩
def di5 : Di := ⟨topS 11, ["square", "found", "size", "row"], [], []⟩
def di6 : Di := ⟨topS 12, ["thing", "kept"], [], []⟩
def di7 : Di := ⟨topS 13, ["square", "one", "other", "mine", "row", "entry", "theirs"], [], []⟩
def di8 : Di := ⟨topS 14, ["square", "row"], [], []⟩
def di9 : Di := ⟨topS 16, ["row", "rows", "column", "often", "one"], [], []⟩
def di10 : Di := ⟨topS 17, ["one", "other", "row"], [], []⟩
def di11 : Di := ⟨topS 18, ["rows", "place", "column", "index", "row"], [], []⟩
def di12 : Di := ⟨topS 19, ["rows", "size", "sign", "one", "other"], [], []⟩
def di13 : Di := ⟨topS 20, ["change", "determinant", "row", "one"], [], []⟩
def di14 : Di := ⟨topS 21, ["table", "rows", "one", "other"], [], []⟩
def di15 : Di := ⟨topS 23, ["one", "other"], [], []⟩
def di16 : Di := ⟨topS 24, ["above", "below", "divisor"], [], []⟩
def di17 : Di := ⟨topS 29, ["thing", "kept"], [], []⟩
def di18 : Di := ⟨topS 30, ["table", "kept"], [], []⟩
def di19 : Di := ⟨topS 31, ["table", "here", "change", "low", "between", "_", "high", "often", "step"], [], []⟩
def di20 : Di := ⟨topS 32, ["table", "first", "change"], [], []⟩
def di21 : Di := ⟨topS 33, ["one", "other", "mine", "theirs", "first", "lead", "second", "further"], [], []⟩
def di22 : Di := ⟨topS 34, ["first", "low", "between", "_", "high"], [], []⟩
def di23 : Di := ⟨topS 35, ["table"], [], []⟩
def di24 : Di := ⟨topS 36, ["rows", "one", "other"], [], []⟩
def di25 : Di := ⟨topS 37, ["table", "kept", "first", "lead", "back", "found", "change"], [], []⟩
def di26 : Di := ⟨topS 38, ["determinant", "found", "low", "between", "high", "rest"], [], []⟩
def di27 : Di := ⟨topS 39, ["determinant"], [], []⟩
def di28 : Di := ⟨topS 40, ["determinant", "first"], [], []⟩
def di29 : Di := ⟨topS 41, ["determinant"], [], []⟩
def di30 : Di := ⟨topS 42, ["determinant", "first"], [], []⟩
def di31 : Di := ⟨topS 43, ["table", "first"], [], []⟩
def di32 : Di := ⟨topS 44, ["table", "first"], [], []⟩
def di33 : Di := ⟨topS 46, ["script"], [], []⟩
def di34 : Di := ⟨topS 47, ["stream", "many", "cell", "digit", "mixed"], [], []⟩
def di35 : Di := ⟨topS 48, ["found", "due", "mine", "theirs"], [], []⟩
def di36 : Di := ⟨topS 49, ["word", "ask", "odd", "found"], [(206, 21, ["ask", "odd"], ["ask", "odd"])], [1, 2]⟩
def di37 : Di := ⟨topS 50, ["many", "one", "other"], [], []⟩
def di38 : Di := ⟨topS 51, ["word", "odds", "asks", "ask", "odd"], [(213, 39, ["ask", "odd"], ["ask", "odd"])], [3, 4]⟩
def di39 : Di := ⟨topS 52, ["odds", "one", "other"], [], []⟩
def di40 : Di := ⟨topS 53, ["ask", "e"], [], []⟩
def di41 : Di := ⟨topS 54, ["script", "stream", "odds", "asks"], [(234, 12, ["odd"], []), (235, 16, ["odd"], []), (236, 16, ["odd"], []), (237, 16, ["odd"], []), (238, 16, ["odd"], []), (241, 42, ["odd"], []), (243, 44, ["odd"], []), (245, 12, ["odd"], []), (246, 16, ["odd"], []), (247, 16, ["odd"], [])], []⟩
def dis : List Di := ([di0, di1, di2, di3, di4, di5, di6, di7, di8, di9, di10, di11, di12, di13, di14, di15, di16, di17, di18, di19] : List Di)
  ++ ([di20, di21, di22, di23, di24, di25, di26, di27, di28, di29, di30, di31, di32, di33, di34, di35, di36, di37, di38, di39] : List Di)
  ++ ([di40, di41] : List Di)
def fnNames : List String := (["is_list", "is_whole", "is_row", "kept_square", "size_of", "first_minors", "kept_table", "times_by", "told_square", "led_by", "behind_by", "rest_of", "adjoint_of", "undone_by", "changed_by", "common_divisor", "reduced", "kept_two", "need_two", "led_two"] : List String)
  ++ (["settled_two", "two_alike", "sort_by", "sort_two", "small_changes", "own_changes_two", "all_settled", "need_settled", "settled_of", "classes_of", "even_classes", "least_two", "angle_two", "_law_stream", "_law_draw", "_law_same", "_law_is_very", "_law_unit", "_law_all_refused", "_law_odd_tables"] : List String)
  ++ (["_law_met", "law"] : List String)
def lawIx : Nat := 41

/-- is_list -/
def fn0 : Fn := ⟨1, 1, [], (.cons (.ret (.bu (.inst [.list, .tuple]) (.var 0)))
    .nil)⟩
/-- is_whole -/
def fn1 : Fn := ⟨1, 1, [], (.cons (.ret (.and (.bu (.inst [.int]) (.var 0)) (.not (.bu (.inst [.bool]) (.var 0)))))
    .nil)⟩
/-- is_row -/
def fn2 : Fn := ⟨2, 2, [], (.cons (.ret (.and (.call 0 [] (.cons (.var 0) .nil) .nil) (.cmp .eq (.bu .len (.var 0)) (.var 1))))
    .nil)⟩
/-- kept_square -/
def fn3 : Fn := ⟨1, 4, [], (.cons (.ite (.or (.not (.call 0 [] (.cons (.var 0) .nil) .nil)) (.or (.not (.chain .le .le (.int (1)) (.bu .len (.var 0)) (.int (8)))) (.not (.bu .all (.comp [2] [] (.v 2) (.seq (.var 0)) .nil (.call 2 [] (.cons (.var 2) (.cons (.bu .len (.var 0)) .nil)) .nil)))))) (.cons (.ret .non)
    .nil) .nil)
    (.cons (.asg (.nm (.v 1)) (.bu .tuple (.comp [2] [] (.v 2) (.seq (.var 0)) .nil (.bu .tuple (.var 2)))))
    (.cons (.ite (.not (.bu .all (.comp [2] [] (.v 2) (.seq (.var 1)) .nil (.bu .all (.comp [3] [] (.v 3) (.seq (.var 2)) .nil (.call 1 [] (.cons (.var 3) .nil) .nil)))))) (.cons (.ret .non)
    .nil) .nil)
    (.cons (.ret (.ite (.cmp .eq (.var 1) (.bu .zipT (.var 1))) (.var 1) .non))
    .nil))))⟩
/-- size_of -/
def fn4 : Fn := ⟨1, 12, [], (.cons (.asgs [(.nm (.v 1)), (.nm (.v 2)), (.nm (.v 3))] (.cons (.comp [9] [] (.v 9) (.seq (.var 0)) .nil (.bu .list (.var 9))) (.cons (.int (1)) (.cons (.int (1)) .nil))))
    (.cons (.for_ (.v 4) (.range (.cons (.bin .sub (.bu .len (.var 1)) (.int (1))) .nil)) (.cons (.asg (.nm (.v 5)) (.comp [7] [] (.v 7) (.range (.cons (.var 4) (.cons (.bu .len (.var 1)) .nil))) (.cons (.idx (.idx (.var 1) (.var 7)) (.var 4)) .nil) (.var 7)))
    (.cons (.ite (.not (.var 5)) (.cons (.ret (.int (0)))
    .nil) .nil)
    (.cons (.ite (.cmp .ne (.idx (.var 5) (.int (0))) (.var 4)) (.cons (.asgs [(.sub (.var 1) (.var 4)), (.sub (.var 1) (.idx (.var 5) (.int (0))))] (.cons (.idx (.var 1) (.idx (.var 5) (.int (0)))) (.cons (.idx (.var 1) (.var 4)) .nil)))
    (.cons (.asg (.nm (.v 2)) (.neg (.var 2)))
    .nil)) .nil)
    (.cons (.asg (.nm (.v 6)) (.idx (.idx (.var 1) (.var 4)) (.var 4)))
    (.cons (.for_ (.v 7) (.range (.cons (.bin .add (.var 4) (.int (1))) (.cons (.bu .len (.var 1)) .nil))) (.cons (.asg (.nm (.v 8)) (.idx (.idx (.var 1) (.var 7)) (.var 4)))
    (.cons (.asg (.sub (.var 1) (.var 7)) (.comp [10, 11] [] (.t [(.v 10), (.v 11)]) (.zip (.idx (.var 1) (.var 7)) (.idx (.var 1) (.var 4))) .nil (.bin .fdiv (.bin .sub (.bin .mul (.var 6) (.var 10)) (.bin .mul (.var 8) (.var 11))) (.var 3))))
    .nil)))
    (.cons (.asg (.nm (.v 3)) (.var 6))
    .nil)))))))
    (.cons (.ret (.ite (.var 1) (.bin .mul (.var 2) (.idx (.idx (.var 1) (.neg (.int (1)))) (.neg (.int (1))))) (.int (1))))
    .nil)))⟩
/-- first_minors -/
def fn5 : Fn := ⟨1, 4, [], (.cons (.asg (.nm (.v 1)) (.lst .nil))
    (.cons (.for_ (.v 2) (.range (.cons (.int (1)) (.cons (.bin .add (.bu .len (.var 0)) (.int (1))) .nil))) (.cons (.ex (.me .append (.var 1) (.cons (.call 4 [] (.cons (.comp [3] [] (.v 3) (.seq (.sl (.var 0) .no (.yes (.var 2)))) .nil (.sl (.var 3) .no (.yes (.var 2)))) .nil) .nil) .nil)))
    (.cons (.ite (.cmp .le (.idx (.var 1) (.neg (.int (1)))) (.int (0))) (.cons .brk
    .nil) .nil)
    .nil)))
    (.cons (.ret (.var 1))
    .nil)))⟩
/-- kept_table -/
def fn6 : Fn := ⟨1, 2, [], (.cons (.asg (.nm (.v 1)) (.call 3 [] (.cons (.var 0) .nil) .nil))
    (.cons (.ret (.ite (.and (.cmp .notn (.var 1) .non) (.cmp .gt (.idx (.call 5 [] (.cons (.var 1) .nil) .nil) (.neg (.int (1)))) (.int (0)))) (.var 1) .non))
    .nil))⟩
/-- times_by -/
def fn7 : Fn := ⟨3, 7, [], (.cons (.ret (.bu .sum (.comp [3, 4] [] (.t [(.v 3), (.v 4)]) (.zip (.var 1) (.var 0)) .nil (.bin .mul (.var 3) (.bu .sum (.comp [5, 6] [] (.t [(.v 5), (.v 6)]) (.zip (.var 4) (.var 2)) .nil (.bin .mul (.var 5) (.var 6))))))))
    .nil)⟩
/-- told_square -/
def fn8 : Fn := ⟨1, 2, [], (.cons (.ret (.comp [1] [] (.v 1) (.seq (.var 0)) .nil (.bu .list (.var 1))))
    .nil)⟩
/-- led_by -/
def fn9 : Fn := ⟨2, 5, [], (.cons .no
    .nil)⟩
/-- behind_by -/
def fn10 : Fn := ⟨2, 3, [], (.cons (.ret (.bu .tuple (.comp [2] [] (.v 2) (.seq (.var 0)) .nil (.call 9 [] (.cons (.var 2) (.cons (.var 1) .nil)) .nil))))
    .nil)⟩
/-- rest_of -/
def fn11 : Fn := ⟨3, 5, [], (.cons (.ret (.comp [3, 4] [] (.t [(.v 3), (.v 4)]) (.enum (.var 0)) (.cons (.cmp .ne (.var 3) (.var 1)) .nil) (.bin .add (.sl (.var 4) .no (.yes (.var 2))) (.sl (.var 4) (.yes (.bin .add (.var 2) (.int (1)))) .no))))
    .nil)⟩
/-- adjoint_of -/
def fn12 : Fn := ⟨1, 5, [], (.cons .no
    (.cons (.asg (.nm (.v 2)) (.comp [3] [] (.v 3) (.seq (.var 1)) .nil (.comp [4] [] (.v 4) (.seq (.var 1)) .nil (.ite (.cmp .eq (.bin .mod (.bin .add (.var 3) (.var 4)) (.int (2))) (.int (0))) (.int (1)) (.neg (.int (1)))))))
    (.cons (.ret (.bu .tuple (.comp [3] [] (.v 3) (.seq (.var 1)) .nil (.bu .tuple (.comp [4] [] (.v 4) (.seq (.var 1)) .nil (.bin .mul (.idx (.idx (.var 2) (.var 3)) (.var 4)) (.call 4 [] (.cons (.call 11 [] (.cons (.var 0) (.cons (.var 4) (.cons (.var 3) .nil))) .nil) .nil) .nil)))))))
    .nil)))⟩
/-- undone_by -/
def fn13 : Fn := ⟨1, 4, [], (.cons (.asg (.nm (.v 1)) (.call 4 [] (.cons (.var 0) .nil) .nil))
    (.cons (.ret (.bu .tuple (.comp [2] [] (.v 2) (.seq (.call 12 [] (.cons (.var 0) .nil) .nil)) .nil (.bu .tuple (.comp [3] [] (.v 3) (.seq (.var 2)) .nil (.bin .mul (.var 1) (.var 3)))))))
    .nil))⟩
/-- changed_by -/
def fn14 : Fn := ⟨2, 4, [], (.cons (.ret (.bu .tuple (.comp [2] [] (.v 2) (.seq (.var 1)) .nil (.bu .tuple (.comp [3] [] (.v 3) (.seq (.var 1)) .nil (.call 7 [] (.cons (.var 0) (.cons (.var 2) (.cons (.var 3) .nil))) .nil))))))
    .nil)⟩
/-- common_divisor -/
def fn15 : Fn := ⟨2, 2, [], (.cons (.par [0, 1] (.cons (.bu .abs (.var 0)) (.cons (.bu .abs (.var 1)) .nil)))
    (.cons (.whl (.var 1) (.cons (.par [0, 1] (.cons (.var 1) (.cons (.bin .mod (.var 0) (.var 1)) .nil)))
    .nil))
    (.cons (.ret (.var 0))
    .nil)))⟩
/-- reduced -/
def fn16 : Fn := ⟨2, 3, [], (.cons (.asg (.nm (.v 2)) (.call 15 [] (.cons (.var 0) (.cons (.var 1) .nil)) .nil))
    (.cons (.ite (.cmp .lt (.var 1) (.int (0))) (.cons (.asg (.nm (.v 2)) (.neg (.var 2)))
    .nil) .nil)
    (.cons (.ret (.tup (.cons (.bin .fdiv (.var 0) (.var 2)) (.cons (.bin .fdiv (.var 1) (.var 2)) .nil))))
    .nil)))⟩
/-- kept_two -/
def fn17 : Fn := ⟨1, 2, [], (.cons (.asg (.nm (.v 1)) (.call 6 [] (.cons (.var 0) .nil) .nil))
    (.cons (.ret (.ite (.and (.cmp .notn (.var 1) .non) (.cmp .eq (.bu .len (.var 1)) (.int (2)))) (.var 1) .non))
    .nil))⟩
/-- need_two -/
def fn18 : Fn := ⟨1, 2, [], (.cons (.asg (.nm (.v 1)) (.call 17 [] (.cons (.var 0) .nil) .nil))
    (.cons (.ite (.cmp .isn (.var 1) .non) (.cons (.rais 3 (.cons (.var 0) .nil))
    .nil) .nil)
    (.cons (.ret (.var 1))
    .nil)))⟩
/-- led_two -/
def fn19 : Fn := ⟨1, 9, [], (.cons (.par [1, 2] (.cons (.var 0) (.cons (.tup (.cons (.tup (.cons (.int (1)) (.cons (.int (0)) .nil))) (.cons (.tup (.cons (.int (0)) (.cons (.int (1)) .nil))) .nil))) .nil)))
    (.cons (.whl (.bl true) (.cons (.asg (.nm (.t [(.t [(.v 3), (.v 4)]), (.t [(.v 5), (.v 6)])])) (.var 1))
    (.cons (.asg (.nm (.v 7)) (.bin .fdiv (.bin .sub (.bin .add (.bin .mul (.int (2)) (.var 4)) (.var 3)) (.int (1))) (.bin .mul (.int (2)) (.var 3))))
    (.cons (.ite (.cmp .lt (.var 6) (.var 3)) (.cons (.asg (.nm (.v 8)) (.tup (.cons (.tup (.cons (.int (0)) (.cons (.int (1)) .nil))) (.cons (.tup (.cons (.int (1)) (.cons (.int (0)) .nil))) .nil))))
    .nil) (.cons (.ite (.var 7) (.cons (.asg (.nm (.v 8)) (.tup (.cons (.tup (.cons (.int (1)) (.cons (.int (0)) .nil))) (.cons (.tup (.cons (.neg (.var 7)) (.cons (.int (1)) .nil))) .nil))))
    .nil) (.cons (.ite (.cmp .lt (.var 4) (.int (0))) (.cons (.asg (.nm (.v 8)) (.tup (.cons (.tup (.cons (.int (1)) (.cons (.int (0)) .nil))) (.cons (.tup (.cons (.int (0)) (.cons (.neg (.int (1))) .nil))) .nil))))
    .nil) (.cons (.ret (.tup (.cons (.var 1) (.cons (.var 2) .nil))))
    .nil))
    .nil))
    .nil))
    (.cons (.par [1, 2] (.cons (.call 14 [] (.cons (.var 1) (.cons (.var 8) .nil)) .nil) (.cons (.call 10 [] (.cons (.var 8) (.cons (.var 2) .nil)) .nil) .nil)))
    .nil)))))
    .nil))⟩
/-- settled_two -/
def fn20 : Fn := ⟨1, 3, [], (.cons (.asg (.nm (.t [(.v 1), (.v 2)])) (.call 19 [] (.cons (.call 18 [] (.cons (.var 0) .nil) .nil) .nil) .nil))
    (.cons (.ret (.tup (.cons (.call 8 [] (.cons (.var 1) .nil) .nil) (.cons (.call 8 [] (.cons (.var 2) .nil) .nil) .nil))))
    .nil))⟩
/-- two_alike -/
def fn21 : Fn := ⟨2, 8, [], (.cons (.par [2, 3] (.cons (.call 17 [] (.cons (.var 0) .nil) .nil) (.cons (.call 17 [] (.cons (.var 1) .nil) .nil) .nil)))
    (.cons (.ite (.cmp .isn (.var 2) .non) (.cons (.rais 1 (.cons (.var 0) .nil))
    .nil) .nil)
    (.cons (.ite (.cmp .isn (.var 3) .non) (.cons (.rais 2 (.cons (.var 1) .nil))
    .nil) .nil)
    (.cons (.asg (.nm (.t [(.v 4), (.v 5)])) (.call 19 [] (.cons (.var 2) .nil) .nil))
    (.cons (.asg (.nm (.t [(.v 6), (.v 7)])) (.call 19 [] (.cons (.var 3) .nil) .nil))
    (.cons (.ite (.cmp .ne (.var 4) (.var 6)) (.cons (.ret (.tup (.cons (.str ("settled" : Str)) (.cons (.call 8 [] (.cons (.var 4) .nil) .nil) (.cons (.call 8 [] (.cons (.var 6) .nil) .nil) .nil)))))
    .nil) .nil)
    (.cons (.ret (.tup (.cons (.str ("change" : Str)) (.cons (.call 8 [] (.cons (.call 10 [] (.cons (.call 13 [] (.cons (.var 7) .nil) .nil) (.cons (.var 5) .nil)) .nil) .nil) .nil) .nil))))
    .nil)))))))⟩
/-- sort_by -/
def fn22 : Fn := ⟨1, 5, [], (.cons (.asg (.nm (.t [(.t [(.v 1), (.v 2)]), (.t [(.v 3), (.v 4)])])) (.var 0))
    (.cons (.ite (.cmp .eq (.var 2) (.int (0))) (.cons (.ret (.ite (.cmp .eq (.var 1) (.var 4)) (.str ("square" : Str)) (.str ("oblong" : Str))))
    .nil) .nil)
    (.cons (.ite (.and (.cmp .eq (.bin .mul (.int (2)) (.var 2)) (.var 1)) (.cmp .eq (.var 1) (.var 4))) (.cons (.ret (.str ("six" : Str)))
    .nil) .nil)
    (.cons (.ret (.ite (.or (.cmp .eq (.bin .mul (.int (2)) (.var 2)) (.var 1)) (.cmp .eq (.var 1) (.var 4))) (.str ("rhomb" : Str)) (.str ("bare" : Str))))
    .nil))))⟩
/-- sort_two -/
def fn23 : Fn := ⟨1, 1, [], (.cons (.ret (.call 22 [] (.cons (.idx (.call 19 [] (.cons (.call 18 [] (.cons (.var 0) .nil) .nil) .nil) .nil) (.int (0))) .nil) .nil))
    .nil)⟩
/-- small_changes -/
def fn24 : Fn := ⟨0, 3, [], (.cons .no
    (.cons .no
    .nil))⟩
/-- own_changes_two -/
def fn25 : Fn := ⟨1, 7, [], (.cons (.asg (.nm (.v 1)) (.call 18 [] (.cons (.var 0) .nil) .nil))
    (.cons (.asg (.nm (.t [(.v 2), (.v 3)])) (.call 19 [] (.cons (.var 1) .nil) .nil))
    (.cons (.par [4, 5] (.cons (.call 13 [] (.cons (.var 3) .nil) .nil) (.cons (.lst .nil) .nil)))
    (.cons (.for_ (.v 6) (.seq (.call 24 [] .nil .nil)) (.cons (.ite (.cmp .eq (.call 14 [] (.cons (.var 2) (.cons (.var 6) .nil)) .nil) (.var 2)) (.cons (.ex (.me .append (.var 5) (.cons (.call 10 [] (.cons (.var 4) (.cons (.call 10 [] (.cons (.var 6) (.cons (.var 3) .nil)) .nil) .nil)) .nil) .nil)))
    .nil) .nil)
    .nil))
    (.cons .no
    .nil)))))⟩
/-- all_settled -/
def fn26 : Fn := ⟨1, 6, [], (.cons (.asg (.nm (.v 1)) (.lst .nil))
    (.cons (.asg (.nm (.v 2)) (.int (1)))
    (.cons (.whl (.cmp .le (.bin .mul (.bin .mul (.int (3)) (.var 2)) (.var 2)) (.bin .mul (.int (4)) (.var 0))) (.cons (.for_ (.v 3) (.range (.cons (.bin .add (.bin .fdiv (.var 2) (.int (2))) (.int (1))) .nil)) (.cons (.asg (.nm (.t [(.v 4), (.v 5)])) (.divmod (.bin .add (.var 0) (.bin .mul (.var 3) (.var 3))) (.var 2)))
    (.cons (.ite (.and (.cmp .eq (.var 5) (.int (0))) (.cmp .ge (.var 4) (.var 2))) (.cons (.ex (.me .append (.var 1) (.cons (.tup (.cons (.tup (.cons (.var 2) (.cons (.var 3) .nil))) (.cons (.tup (.cons (.var 3) (.cons (.var 4) .nil))) .nil))) .nil)))
    .nil) .nil)
    .nil)))
    (.cons (.asg (.nm (.v 2)) (.bin .add (.var 2) (.int (1))))
    .nil)))
    (.cons .no
    .nil))))⟩
/-- need_settled -/
def fn27 : Fn := ⟨1, 1, [], (.cons (.ite (.or (.not (.call 1 [] (.cons (.var 0) .nil) .nil)) (.cmp .lt (.var 0) (.int (1)))) (.cons (.rais 4 (.cons (.var 0) .nil))
    .nil) .nil)
    (.cons (.ret (.call 26 [] (.cons (.var 0) .nil) .nil))
    .nil))⟩
/-- settled_of -/
def fn28 : Fn := ⟨1, 2, [], (.cons (.ret (.comp [1] [] (.v 1) (.seq (.call 27 [] (.cons (.var 0) .nil) .nil)) .nil (.call 8 [] (.cons (.var 1) .nil) .nil)))
    .nil)⟩
/-- classes_of -/
def fn29 : Fn := ⟨1, 1, [], (.cons (.ret (.bu .len (.call 27 [] (.cons (.var 0) .nil) .nil)))
    .nil)⟩
/-- even_classes -/
def fn30 : Fn := ⟨1, 2, [], (.cons (.ret (.bu .len (.comp [1] [] (.v 1) (.seq (.call 27 [] (.cons (.var 0) .nil) .nil)) (.cons (.and (.cmp .eq (.bin .mod (.idx (.idx (.var 1) (.int (0))) (.int (0))) (.int (2))) (.int (0))) (.cmp .eq (.bin .mod (.idx (.idx (.var 1) (.int (1))) (.int (1))) (.int (2))) (.int (0)))) .nil) (.var 1))))
    .nil)⟩
/-- least_two -/
def fn31 : Fn := ⟨1, 2, [], (.cons (.asg (.nm (.v 1)) (.idx (.call 19 [] (.cons (.call 18 [] (.cons (.var 0) .nil) .nil) .nil) .nil) (.int (0))))
    (.cons (.ret (.tup (.cons (.idx (.idx (.var 1) (.int (0))) (.int (0))) (.cons (.idx (.idx (.var 1) (.int (1))) (.int (1))) .nil))))
    .nil))⟩
/-- angle_two -/
def fn32 : Fn := ⟨1, 2, [], (.cons (.asg (.nm (.v 1)) (.idx (.call 19 [] (.cons (.call 18 [] (.cons (.var 0) .nil) .nil) .nil) .nil) (.int (0))))
    (.cons (.ret (.call 16 [] (.cons (.bin .mul (.idx (.idx (.var 1) (.int (0))) (.int (1))) (.idx (.idx (.var 1) (.int (0))) (.int (1)))) (.cons (.bin .mul (.idx (.idx (.var 1) (.int (0))) (.int (0))) (.idx (.idx (.var 1) (.int (1))) (.int (1)))) .nil)) .nil))
    .nil))⟩
/-- _law_stream -/
def fn33 : Fn := ⟨1, 1, [], (.cons (.ret (.lst (.cons (.bu .list (.var 0)) (.cons (.int (0)) (.cons (.int (0)) (.cons (.int (17)) .nil))))))
    .nil)⟩
/-- _law_draw -/
def fn34 : Fn := ⟨2, 5, [], (.cons (.asg (.sub (.var 0) (.int (2))) (.bin .add (.idx (.var 0) (.int (2))) (.int (1))))
    (.cons (.whl (.and (.cmp .eq (.idx (.var 0) (.int (1))) (.int (0))) (.nilc .ne (.idx (.var 0) (.int (0))))) (.cons (.asg (.nm (.v 2)) (.bu .abs (.me .pop (.idx (.var 0) (.int (0))) (.cons (.int (0)) .nil))))
    (.cons (.asg (.sub (.var 0) (.int (3))) (.bin .mod (.bu .int (.bin .add (.bin .add (.bin .mul (.idx (.var 0) (.int (3))) (.int (8191))) (.var 2)) (.int (3)))) (.int (2147483647))))
    (.cons (.asg (.sub (.var 0) (.int (1))) (.ite (.cmp .ge (.var 2) (.bin .pow (.int (10)) (.int (18)))) (.var 2) (.int (0))))
    .nil))))
    (.cons (.ite (.cmp .gt (.idx (.var 0) (.int (1))) (.int (0))) (.cons (.asg (.nm (.v 3)) (.bin .mod (.bu .int (.idx (.var 0) (.int (1)))) (.var 1)))
    (.cons (.asg (.sub (.var 0) (.int (1))) (.bin .fdiv (.idx (.var 0) (.int (1))) (.var 1)))
    (.cons (.ret (.var 3))
    .nil))) .nil)
    (.cons (.asg (.nm (.v 4)) (.bin .mod (.bu .int (.bin .pow (.bin .add (.bin .add (.idx (.var 0) (.int (3))) (.bin .mul (.int (7919)) (.idx (.var 0) (.int (2))))) (.int (104729))) (.int (5)))) (.int (2147483629))))
    (.cons (.ret (.bin .mod (.bin .mod (.bu .int (.bin .pow (.bin .add (.bin .add (.bin .mul (.var 4) (.int (48271))) (.bin .mul (.int (30011)) (.idx (.var 0) (.int (2))))) (.int (29))) (.int (3)))) (.int (1000000007))) (.var 1)))
    .nil)))))⟩
/-- _law_same -/
def fn35 : Fn := ⟨2, 4, [], (.cons (.ite (.bu (.inst [.list, .tuple]) (.var 1)) (.cons (.ite (.or (.cmp .ne (.bu (.inst [.list]) (.var 0)) (.bu (.inst [.list]) (.var 1))) (.cmp .ne (.bu (.inst [.tuple]) (.var 0)) (.bu (.inst [.tuple]) (.var 1)))) (.cons (.ret (.bl false))
    .nil) .nil)
    (.cons (.ret (.and (.cmp .eq (.bu .len (.var 0)) (.bu .len (.var 1))) (.bu .all (.comp [2, 3] [] (.t [(.v 2), (.v 3)]) (.zip (.var 0) (.var 1)) .nil (.call 35 [] (.cons (.var 2) (.cons (.var 3) .nil)) .nil)))))
    .nil)) .nil)
    (.cons (.ite (.bu (.inst [.dict]) (.var 1)) (.cons (.ret (.and (.bu (.inst [.dict]) (.var 0)) (.call 35 [] (.cons (.bu .items (.var 0)) (.cons (.bu .items (.var 1)) .nil)) .nil)))
    .nil) .nil)
    (.cons (.ite (.or (.bu (.inst [.bool]) (.var 1)) (.bu (.inst [.bool]) (.var 0))) (.cons (.ret (.and (.bu (.inst [.bool]) (.var 1)) (.and (.bu (.inst [.bool]) (.var 0)) (.cmp .eq (.var 0) (.var 1)))))
    .nil) .nil)
    (.cons (.ite (.or (.cmp .isn (.var 1) .non) (.cmp .isn (.var 0) .non)) (.cons (.ret (.and (.cmp .isn (.var 1) .non) (.cmp .isn (.var 0) .non)))
    .nil) .nil)
    (.cons (.ite (.or (.cmp .ne (.bu (.inst [.int]) (.var 1)) (.bu (.inst [.int]) (.var 0))) (.cmp .ne (.bu (.inst [.str]) (.var 1)) (.bu (.inst [.str]) (.var 0)))) (.cons (.ret (.bl false))
    .nil) .nil)
    (.cons (.ret (.and (.not (.bu (.inst [.list, .tuple, .dict]) (.var 0))) (.cmp .eq (.var 0) (.var 1))))
    .nil))))))⟩
/-- _law_is_very -/
def fn36 : Fn := ⟨2, 4, [1, 2], (.cons (.asg (.nm (.v 2)) (.lst (.cons (.str ("odd" : Str)) .nil)))
    (.cons (.asg (.nm (.v 3)) (.call 40 [] (.cons (.lam 0 2 2 (.vcall (.var 0) (.cons (.var 1) .nil)) [1, 2]) .nil) .nil))
    (.cons (.ex (.me .append (.var 2) (.cons (.str ("late" : Str)) .nil)))
    (.cons (.ret (.call 35 [] (.cons (.var 3) (.cons (.tup (.cons (.var 0) (.cons (.var 2) .nil))) .nil)) .nil))
    .nil))))⟩
/-- _law_unit -/
def fn37 : Fn := ⟨1, 3, [], (.cons (.ret (.comp [1] [] (.v 1) (.range (.cons (.var 0) .nil)) .nil (.comp [2] [] (.v 2) (.range (.cons (.var 0) .nil)) .nil (.bu .int (.cmp .eq (.var 1) (.var 2))))))
    .nil)⟩
/-- _law_all_refused -/
def fn38 : Fn := ⟨3, 5, [3], (.cons (.for_ (.v 3) (.seq (.var 2)) (.cons (.ite (.or (.not (.bu .all (.comp [4] [4] (.v 4) (.seq (.var 1)) .nil (.call 35 [] (.cons (.call 40 [] (.cons (.lam 0 2 2 (.vcall (.var 0) (.cons (.var 1) .nil)) [3, 4]) .nil) .nil) (.cons (.tup (.cons (.var 0) (.cons (.var 4) .nil))) .nil)) .nil)))) (.not (.call 36 [] (.cons (.var 0) (.cons (.var 3) .nil)) .nil))) (.cons (.ret (.bl false))
    .nil) .nil)
    .nil))
    (.cons (.ret (.bl true))
    .nil))⟩
/-- _law_odd_tables -/
def fn39 : Fn := ⟨0, 3, [], (.cons (.asg (.nm (.v 0)) (.lst (.cons .non (.cons (.int (5)) (.cons (.str ("ab" : Str)) (.cons .dct0 (.cons (.lst .nil) (.cons (.lst (.cons (.lst .nil) .nil)) (.cons (.lst (.cons (.lst (.cons (.int (0)) .nil)) .nil)) (.cons (.lst (.cons (.lst (.cons (.neg (.int (1))) .nil)) .nil)) (.cons (.lst (.cons (.lst (.cons (.bl true) .nil)) .nil)) (.cons (.lst (.cons (.lst (.cons (.int (1)) .nil)) (.cons (.lst (.cons (.int (1)) .nil)) .nil))) (.cons (.lst (.cons (.lst (.cons (.int (1)) (.cons (.int (0)) .nil))) .nil)) (.cons (.lst (.cons (.lst (.cons (.int (1)) (.cons (.int (0)) .nil))) (.cons (.lst (.cons (.int (0)) .nil)) .nil))) (.cons (.lst (.cons (.lst (.cons (.int (1)) (.cons (.int (2)) .nil))) (.cons (.lst (.cons (.int (2)) (.cons (.int (1)) .nil))) .nil))) (.cons (.lst (.cons (.lst (.cons (.int (1)) (.cons (.int (1)) .nil))) (.cons (.lst (.cons (.int (0)) (.cons (.int (1)) .nil))) .nil))) (.cons (.lst (.cons (.lst (.cons (.int (1)) (.cons (.int (1)) .nil))) (.cons (.lst (.cons (.int (1)) (.cons (.int (1)) .nil))) .nil))) (.cons (.lst (.cons (.lst (.cons (.int (1)) (.cons .non .nil))) (.cons (.lst (.cons .non (.cons (.int (1)) .nil))) .nil))) .nil))))))))))))))))))
    (.cons (.ex (.me .extend (.var 0) (.cons (.lst (.cons (.lst (.cons (.lst (.cons (.int (1)) (.cons (.int (0)) .nil))) (.cons (.lst (.cons (.int (0)) (.cons (.str ("1" : Str)) .nil))) .nil))) (.cons (.lst (.cons (.lst (.cons (.int (0)) (.cons (.int (0)) .nil))) (.cons (.lst (.cons (.int (0)) (.cons (.int (1)) .nil))) .nil))) (.cons (.lst (.cons (.lst (.cons (.int (1)) (.cons (.int (0)) (.cons (.int (0)) .nil)))) (.cons (.lst (.cons (.int (0)) (.cons (.int (1)) (.cons (.int (2)) .nil)))) (.cons (.lst (.cons (.int (0)) (.cons (.int (2)) (.cons (.int (1)) .nil)))) .nil)))) (.cons (.comp [1] [] (.v 1) (.range (.cons (.int (9)) .nil)) .nil (.comp [2] [] (.v 2) (.range (.cons (.int (9)) .nil)) .nil (.bu .int (.cmp .eq (.var 1) (.var 2))))) .nil))))) .nil)))
    (.cons (.ret (.var 0))
    .nil)))⟩
/-- _law_met -/
def fn40 : Fn := ⟨1, 2, [], (.cons (.met (.tup (.cons (.str ("told" : Str)) (.cons (.vcall (.var 0) .nil) .nil))) [(4, ("determinant" : Str), 0), (1, ("one" : Str), 0), (2, ("other" : Str), 0), (3, ("two" : Str), 0)])
    .nil)⟩
/-- law -/
def fn41 : Fn := ⟨1, 4, [], (.cons (.asg (.nm (.v 1)) (.call 33 [] (.cons (.var 0) .nil) .nil))
    (.cons (.asg (.nm (.v 2)) (.bin .add (.call 39 [] .nil .nil) (.lst (.cons (.lst (.cons (.lst (.cons (.bin .add (.int (1)) (.call 34 [] (.cons (.var 1) (.cons (.int (5)) .nil)) .nil)) .nil)) .nil)) (.cons (.call 37 [] (.cons (.int (3)) .nil) .nil) .nil)))))
    (.cons (.asg (.nm (.v 3)) (.lst (.cons (.lam 1 0 1 (.call 20 [] (.cons (.var 0) .nil) .nil) []) .nil)))
    (.cons (.ex (.me .append (.var 3) (.cons (.lam 1 0 1 (.call 23 [] (.cons (.var 0) .nil) .nil) []) .nil)))
    (.cons (.ex (.me .append (.var 3) (.cons (.lam 1 0 1 (.call 25 [0] .nil (.cons (.var 0) .nil)) []) .nil)))
    (.cons (.ex (.me .append (.var 3) (.cons (.lam 1 0 1 (.call 31 [] (.cons (.var 0) .nil) .nil) []) .nil)))
    (.cons (.ex (.me .append (.var 3) (.cons (.lam 1 0 1 (.call 32 [] (.cons (.var 0) .nil) .nil) []) .nil)))
    (.cons (.ite (.not (.call 38 [] (.cons (.str ("two" : Str)) (.cons (.var 2) (.cons (.var 3) .nil))) .nil)) (.cons (.ret (.bl false))
    .nil) .nil)
    (.cons (.ite (.not (.call 38 [] (.cons (.str ("one" : Str)) (.cons (.var 2) (.cons (.lst (.cons (.lam 1 0 1 (.call 21 [] (.cons (.var 0) (.cons .non .nil)) .nil) []) .nil)) .nil))) .nil)) (.cons (.ret (.bl false))
    .nil) .nil)
    (.cons (.ite (.not (.call 38 [] (.cons (.str ("other" : Str)) (.cons (.var 2) (.cons (.lst (.cons (.lam 1 0 1 (.call 21 [1, 0] .nil (.cons (.var 0) (.cons (.lst (.cons (.lst (.cons (.int (1)) (.cons (.int (0)) .nil))) (.cons (.lst (.cons (.int (0)) (.cons (.int (1)) .nil))) .nil))) .nil))) []) .nil)) .nil))) .nil)) (.cons (.ret (.bl false))
    .nil) .nil)
    (.cons (.asg (.nm (.v 3)) (.lst (.cons (.lam 1 0 1 (.call 28 [] (.cons (.var 0) .nil) .nil) []) .nil)))
    (.cons (.ex (.me .append (.var 3) (.cons (.lam 1 0 1 (.call 29 [] (.cons (.var 0) .nil) .nil) []) .nil)))
    (.cons (.ex (.me .append (.var 3) (.cons (.lam 1 0 1 (.call 30 [] (.cons (.var 0) .nil) .nil) []) .nil)))
    (.cons (.ret (.call 38 [] (.cons (.str ("determinant" : Str)) (.cons (.lst (.cons .non (.cons (.int (0)) (.cons (.neg (.int (1))) (.cons (.str ("2" : Str)) (.cons (.lst .nil) (.cons (.bl true) (.cons .dct0 (.cons (.tup (.cons (.int (1)) .nil)) .nil))))))))) (.cons (.var 3) .nil))) .nil))
    .nil))))))))))))))⟩

def pg : Pg := ⟨([fn0, fn1, fn2, fn3, fn4, fn5, fn6, fn7, fn8, fn9, fn10, fn11, fn12, fn13, fn14, fn15, fn16, fn17, fn18, fn19] : List Fn)
  ++ ([fn20, fn21, fn22, fn23, fn24, fn25, fn26, fn27, fn28, fn29, fn30, fn31, fn32, fn33, fn34, fn35, fn36, fn37, fn38, fn39] : List Fn)
  ++ ([fn40, fn41] : List Fn), clsP⟩
end Ev
namespace Ev
open PySem PySem.W PySem.Calls PyProof.Rows
def iniD (x : PySem.Str) (st : Stmt) : He.DefD := match st with
  | .ClassDef _ _ _ (.FunctionDef n a b _ _ _ sc _ _ _ :: _) _ _ _ _ _ _ _ => ⟨(x, some n), n, (x ++ "." : PySem.Str) ++ n, a, b, sc, [], []⟩
  | _ => ⟨("", none), "", "", ⟨[], [], none, [], [], none, []⟩, [], ⟨.function, [], false, false, []⟩, [], []⟩
def iniL : List (PySem.Str × PySem.Str × He.DefD) := [("BadOne", "one", iniD "BadOne" (topS 6)), ("BadOther", "other", iniD "BadOther" (topS 7)), ("BadTwo", "table", iniD "BadTwo" (topS 26)), ("BadDeterminant", "determinant", iniD "BadDeterminant" (topS 27))]
def LTk : LT := ⟨txT, clsP, dis, pg.fns, iniL⟩
abbrev Rk : OpenRow := OpenLaw.row PySem.Challenge.rw_spacedrows_k77_two_ways_refused
abbrev hkk : PySem.W.Hook := He.hookX 5 LTk.fa LTk.fn [] LTk.tf (exB LTk)
def obk (s : PySem.W.SharedT) : He.AlX := He.obsX 5 LTk.fa LTk.fn [] LTk.tf (exB LTk) (HandSHeadRun.getT s)
theorem obk_eq (s : PySem.W.SharedT) : obk s = hkk.obs s.abs := He.obsX_eq (HandSHeadRun.getT_eq s)
def looseK : List PySem.Str := (["__name__", "is_list", "is_whole", "is_row", "RowError", "BadOne", "BadOther", "kept_square", "size_of", "first_minors", "kept_table", "times_by", "told_square", "led_by", "behind_by", "rest_of", "adjoint_of", "undone_by", "changed_by", "common_divisor", "reduced", "BadTwo", "BadDeterminant", "kept_two", "need_two", "led_two", "settled_two", "two_alike", "sort_by", "sort_two"] : List PySem.Str)
  ++ (["small_changes", "own_changes_two", "all_settled", "need_settled", "settled_of", "classes_of", "even_classes", "least_two", "angle_two", "_law_stream", "_law_draw", "_law_same", "_law_is_very", "_law_unit", "_law_all_refused", "_law_odd_tables", "_law_met"] : List PySem.Str)
theorem runk (w : World) : HandSHeadRun.RunEq Rk (PySem.W.view Rk.prog [54]) hkk obk 6000 looseK w := by
  intro os
  kernel_rfl
end Ev
namespace Ev
open PySem PySem.W PySem.Calls PyProof.Rows
def DfOk (T : LT) (i : Nat) (d : Di) (F : Fn) : Prop := mkFn T.tx d = some F ∧ diB T d = true ∧ ∃ n a b sc bd ps, d.st = .FunctionDef n a b [] none [] sc none bd ps ∧ T.tx.fns[i]? = some (n, paramsOf a) ∧
    ∀ (k : Nat) (ks : List PySem.Str) (pm' : List Nat), (i, k, ks) ∈ T.tx.kcs → permOf (paramsOf a) k ks = some pm' → ∀ (kV doc pm cdv ct : Value) (an : Option Addr) (us0 ws0 us : List Value), us0.length = k → ws0.length = ks.length → mapO (fun i => (us0 ++ ws0)[i]?) pm' = some us →
      bindArgs (PySem.W.fnOf n n a b sc .none kV doc pm an cdv ct) ⟨us0, ks.zip ws0⟩ = pure ((paramsOf a).zip us)
theorem no_kc {i : Nat} {k : Nat} {ks : List PySem.Str} {l : List (Nat × Nat × List PySem.Str)} (h : (l.any fun p => Nat.beq p.1 i) = false) (hm : (i, k, ks) ∈ l) : False := by
  have := List.any_eq_false.mp h _ hm
  exact this (Nat.beq_refl i)

theorem df0 : DfOk LTk 0 di0 fn0 := ⟨by kernel_rfl, by decide +kernel, _, _, _, _, _, _, rfl, rfl, fun k ks pm h _ => (no_kc (by decide) h).elim⟩
theorem df1 : DfOk LTk 1 di1 fn1 := ⟨by kernel_rfl, by decide +kernel, _, _, _, _, _, _, rfl, rfl, fun k ks pm h _ => (no_kc (by decide) h).elim⟩
theorem df2 : DfOk LTk 2 di2 fn2 := ⟨by kernel_rfl, by decide +kernel, _, _, _, _, _, _, rfl, rfl, fun k ks pm h _ => (no_kc (by decide) h).elim⟩
theorem df3 : DfOk LTk 3 di3 fn3 := ⟨by kernel_rfl, by decide +kernel, _, _, _, _, _, _, rfl, rfl, fun k ks pm h _ => (no_kc (by decide) h).elim⟩
theorem df4 : DfOk LTk 4 di4 fn4 := ⟨by kernel_rfl, by decide +kernel, _, _, _, _, _, _, rfl, rfl, fun k ks pm h _ => (no_kc (by decide) h).elim⟩
theorem df5 : DfOk LTk 5 di5 fn5 := ⟨by kernel_rfl, by decide +kernel, _, _, _, _, _, _, rfl, rfl, fun k ks pm h _ => (no_kc (by decide) h).elim⟩
theorem df6 : DfOk LTk 6 di6 fn6 := ⟨by kernel_rfl, by decide +kernel, _, _, _, _, _, _, rfl, rfl, fun k ks pm h _ => (no_kc (by decide) h).elim⟩
theorem df7 : DfOk LTk 7 di7 fn7 := ⟨by kernel_rfl, by decide +kernel, _, _, _, _, _, _, rfl, rfl, fun k ks pm h _ => (no_kc (by decide) h).elim⟩
theorem df8 : DfOk LTk 8 di8 fn8 := ⟨by kernel_rfl, by decide +kernel, _, _, _, _, _, _, rfl, rfl, fun k ks pm h _ => (no_kc (by decide) h).elim⟩
theorem df9 : DfOk LTk 9 di9 fn9 := ⟨by kernel_rfl, by decide +kernel, _, _, _, _, _, _, rfl, rfl, fun k ks pm h _ => (no_kc (by decide) h).elim⟩
theorem df10 : DfOk LTk 10 di10 fn10 := ⟨by kernel_rfl, by decide +kernel, _, _, _, _, _, _, rfl, rfl, fun k ks pm h _ => (no_kc (by decide) h).elim⟩
theorem df11 : DfOk LTk 11 di11 fn11 := ⟨by kernel_rfl, by decide +kernel, _, _, _, _, _, _, rfl, rfl, fun k ks pm h _ => (no_kc (by decide) h).elim⟩
theorem df12 : DfOk LTk 12 di12 fn12 := ⟨by kernel_rfl, by decide +kernel, _, _, _, _, _, _, rfl, rfl, fun k ks pm h _ => (no_kc (by decide) h).elim⟩
theorem df13 : DfOk LTk 13 di13 fn13 := ⟨by kernel_rfl, by decide +kernel, _, _, _, _, _, _, rfl, rfl, fun k ks pm h _ => (no_kc (by decide) h).elim⟩
theorem df14 : DfOk LTk 14 di14 fn14 := ⟨by kernel_rfl, by decide +kernel, _, _, _, _, _, _, rfl, rfl, fun k ks pm h _ => (no_kc (by decide) h).elim⟩
theorem df15 : DfOk LTk 15 di15 fn15 := ⟨by kernel_rfl, by decide +kernel, _, _, _, _, _, _, rfl, rfl, fun k ks pm h _ => (no_kc (by decide) h).elim⟩
theorem df16 : DfOk LTk 16 di16 fn16 := ⟨by kernel_rfl, by decide +kernel, _, _, _, _, _, _, rfl, rfl, fun k ks pm h _ => (no_kc (by decide) h).elim⟩
theorem df17 : DfOk LTk 17 di17 fn17 := ⟨by kernel_rfl, by decide +kernel, _, _, _, _, _, _, rfl, rfl, fun k ks pm h _ => (no_kc (by decide) h).elim⟩
theorem df18 : DfOk LTk 18 di18 fn18 := ⟨by kernel_rfl, by decide +kernel, _, _, _, _, _, _, rfl, rfl, fun k ks pm h _ => (no_kc (by decide) h).elim⟩
theorem df19 : DfOk LTk 19 di19 fn19 := ⟨by kernel_rfl, by decide +kernel, _, _, _, _, _, _, rfl, rfl, fun k ks pm h _ => (no_kc (by decide) h).elim⟩
theorem df20 : DfOk LTk 20 di20 fn20 := ⟨by kernel_rfl, by decide +kernel, _, _, _, _, _, _, rfl, rfl, fun k ks pm h _ => (no_kc (by decide) h).elim⟩
theorem df21 : DfOk LTk 21 di21 fn21 := ⟨by kernel_rfl, by decide +kernel, _, _, _, _, _, _, rfl, rfl, by
  intro k ks pm h1 h2 kV doc pm2 cdv ct an us0 ws0 us h3 h4 h5
  have hk : k = 0 ∧ ks = (["other", "one"] : List PySem.Str) := by
    have h1 : (21, k, ks) ∈ ([(25, 0, ["table"]), (21, 0, ["other", "one"])] : List (Nat × Nat × List PySem.Str)) := h1
    simpa using h1
  obtain ⟨rfl, rfl⟩ := hk
  match us0, h3, ws0, h4 with
  | [], _, [w0, w1], _ =>
    cases h2
    cases h5
    rfl⟩
theorem df22 : DfOk LTk 22 di22 fn22 := ⟨by kernel_rfl, by decide +kernel, _, _, _, _, _, _, rfl, rfl, fun k ks pm h _ => (no_kc (by decide) h).elim⟩
theorem df23 : DfOk LTk 23 di23 fn23 := ⟨by kernel_rfl, by decide +kernel, _, _, _, _, _, _, rfl, rfl, fun k ks pm h _ => (no_kc (by decide) h).elim⟩
theorem df24 : DfOk LTk 24 di24 fn24 := ⟨by kernel_rfl, by decide +kernel, _, _, _, _, _, _, rfl, rfl, fun k ks pm h _ => (no_kc (by decide) h).elim⟩
theorem df25 : DfOk LTk 25 di25 fn25 := ⟨by kernel_rfl, by decide +kernel, _, _, _, _, _, _, rfl, rfl, by
  intro k ks pm h1 h2 kV doc pm2 cdv ct an us0 ws0 us h3 h4 h5
  have hk : k = 0 ∧ ks = (["table"] : List PySem.Str) := by
    have h1 : (25, k, ks) ∈ ([(25, 0, ["table"]), (21, 0, ["other", "one"])] : List (Nat × Nat × List PySem.Str)) := h1
    simpa using h1
  obtain ⟨rfl, rfl⟩ := hk
  match us0, h3, ws0, h4 with
  | [], _, [w0], _ =>
    cases h2
    cases h5
    rfl⟩
theorem df26 : DfOk LTk 26 di26 fn26 := ⟨by kernel_rfl, by decide +kernel, _, _, _, _, _, _, rfl, rfl, fun k ks pm h _ => (no_kc (by decide) h).elim⟩
theorem df27 : DfOk LTk 27 di27 fn27 := ⟨by kernel_rfl, by decide +kernel, _, _, _, _, _, _, rfl, rfl, fun k ks pm h _ => (no_kc (by decide) h).elim⟩
theorem df28 : DfOk LTk 28 di28 fn28 := ⟨by kernel_rfl, by decide +kernel, _, _, _, _, _, _, rfl, rfl, fun k ks pm h _ => (no_kc (by decide) h).elim⟩
theorem df29 : DfOk LTk 29 di29 fn29 := ⟨by kernel_rfl, by decide +kernel, _, _, _, _, _, _, rfl, rfl, fun k ks pm h _ => (no_kc (by decide) h).elim⟩
theorem df30 : DfOk LTk 30 di30 fn30 := ⟨by kernel_rfl, by decide +kernel, _, _, _, _, _, _, rfl, rfl, fun k ks pm h _ => (no_kc (by decide) h).elim⟩
theorem df31 : DfOk LTk 31 di31 fn31 := ⟨by kernel_rfl, by decide +kernel, _, _, _, _, _, _, rfl, rfl, fun k ks pm h _ => (no_kc (by decide) h).elim⟩
theorem df32 : DfOk LTk 32 di32 fn32 := ⟨by kernel_rfl, by decide +kernel, _, _, _, _, _, _, rfl, rfl, fun k ks pm h _ => (no_kc (by decide) h).elim⟩
theorem df33 : DfOk LTk 33 di33 fn33 := ⟨by kernel_rfl, by decide +kernel, _, _, _, _, _, _, rfl, rfl, fun k ks pm h _ => (no_kc (by decide) h).elim⟩
theorem df34 : DfOk LTk 34 di34 fn34 := ⟨by kernel_rfl, by decide +kernel, _, _, _, _, _, _, rfl, rfl, fun k ks pm h _ => (no_kc (by decide) h).elim⟩
theorem df35 : DfOk LTk 35 di35 fn35 := ⟨by kernel_rfl, by decide +kernel, _, _, _, _, _, _, rfl, rfl, fun k ks pm h _ => (no_kc (by decide) h).elim⟩
theorem df36 : DfOk LTk 36 di36 fn36 := ⟨by kernel_rfl, by decide +kernel, _, _, _, _, _, _, rfl, rfl, fun k ks pm h _ => (no_kc (by decide) h).elim⟩
theorem df37 : DfOk LTk 37 di37 fn37 := ⟨by kernel_rfl, by decide +kernel, _, _, _, _, _, _, rfl, rfl, fun k ks pm h _ => (no_kc (by decide) h).elim⟩
theorem df38 : DfOk LTk 38 di38 fn38 := ⟨by kernel_rfl, by decide +kernel, _, _, _, _, _, _, rfl, rfl, fun k ks pm h _ => (no_kc (by decide) h).elim⟩
theorem df39 : DfOk LTk 39 di39 fn39 := ⟨by kernel_rfl, by decide +kernel, _, _, _, _, _, _, rfl, rfl, fun k ks pm h _ => (no_kc (by decide) h).elim⟩
theorem df40 : DfOk LTk 40 di40 fn40 := ⟨by kernel_rfl, by decide +kernel, _, _, _, _, _, _, rfl, rfl, fun k ks pm h _ => (no_kc (by decide) h).elim⟩
theorem df41 : DfOk LTk 41 di41 fn41 := ⟨by kernel_rfl, by decide +kernel, _, _, _, _, _, _, rfl, rfl, fun k ks pm h _ => (no_kc (by decide) h).elim⟩
theorem df_of {i : Nat} {d : Di} {F : Fn} (h1 : LTk.dis[i]? = some d) (h2 : LTk.fns[i]? = some F) (h : DfOk LTk i d F) : ∀ d, LTk.dis[i]? = some d → LTk.fns[i]? = some ⟨0, 0, [], .cons .brk .nil⟩ ∨ (mkFn LTk.tx d = LTk.fns[i]? ∧ diB LTk d = true ∧ ∃ n a b sc bd ps, d.st = .FunctionDef n a b [] none [] sc none bd ps ∧ LTk.tx.fns[i]? = some (n, paramsOf a) ∧ ∀ (k : Nat) (ks : List PySem.Str) (pm' : List Nat), (i, k, ks) ∈ LTk.tx.kcs → permOf (paramsOf a) k ks = some pm' → ∀ (kV doc pm cdv ct : Value) (an : Option Addr) (us0 ws0 us : List Value), us0.length = k → ws0.length = ks.length → mapO (fun i => (us0 ++ ws0)[i]?) pm' = some us → bindArgs (PySem.W.fnOf n n a b sc .none kV doc pm an cdv ct) ⟨us0, ks.zip ws0⟩ = pure ((paramsOf a).zip us)) := by
  intro d' hd
  rw [h1] at hd
  cases hd
  exact .inr ⟨h.1.trans h2.symm, h.2⟩
theorem okk : LTk.Ok where
  fns := by decide +kernel
  nm := fun i d h => match i, h with
    | 0, h => by cases h; exact ⟨_, rfl⟩
    | 1, h => by cases h; exact ⟨_, rfl⟩
    | 2, h => by cases h; exact ⟨_, rfl⟩
    | 3, h => by cases h; exact ⟨_, rfl⟩
    | 4, h => by cases h; exact ⟨_, rfl⟩
    | 5, h => by cases h; exact ⟨_, rfl⟩
    | 6, h => by cases h; exact ⟨_, rfl⟩
    | 7, h => by cases h; exact ⟨_, rfl⟩
    | 8, h => by cases h; exact ⟨_, rfl⟩
    | 9, h => by cases h; exact ⟨_, rfl⟩
    | 10, h => by cases h; exact ⟨_, rfl⟩
    | 11, h => by cases h; exact ⟨_, rfl⟩
    | 12, h => by cases h; exact ⟨_, rfl⟩
    | 13, h => by cases h; exact ⟨_, rfl⟩
    | 14, h => by cases h; exact ⟨_, rfl⟩
    | 15, h => by cases h; exact ⟨_, rfl⟩
    | 16, h => by cases h; exact ⟨_, rfl⟩
    | 17, h => by cases h; exact ⟨_, rfl⟩
    | 18, h => by cases h; exact ⟨_, rfl⟩
    | 19, h => by cases h; exact ⟨_, rfl⟩
    | 20, h => by cases h; exact ⟨_, rfl⟩
    | 21, h => by cases h; exact ⟨_, rfl⟩
    | 22, h => by cases h; exact ⟨_, rfl⟩
    | 23, h => by cases h; exact ⟨_, rfl⟩
    | 24, h => by cases h; exact ⟨_, rfl⟩
    | 25, h => by cases h; exact ⟨_, rfl⟩
    | 26, h => by cases h; exact ⟨_, rfl⟩
    | 27, h => by cases h; exact ⟨_, rfl⟩
    | 28, h => by cases h; exact ⟨_, rfl⟩
    | 29, h => by cases h; exact ⟨_, rfl⟩
    | 30, h => by cases h; exact ⟨_, rfl⟩
    | 31, h => by cases h; exact ⟨_, rfl⟩
    | 32, h => by cases h; exact ⟨_, rfl⟩
    | 33, h => by cases h; exact ⟨_, rfl⟩
    | 34, h => by cases h; exact ⟨_, rfl⟩
    | 35, h => by cases h; exact ⟨_, rfl⟩
    | 36, h => by cases h; exact ⟨_, rfl⟩
    | 37, h => by cases h; exact ⟨_, rfl⟩
    | 38, h => by cases h; exact ⟨_, rfl⟩
    | 39, h => by cases h; exact ⟨_, rfl⟩
    | 40, h => by cases h; exact ⟨_, rfl⟩
    | 41, h => by cases h; exact ⟨_, rfl⟩
    | i + 42, h => by cases h
  cl := by decide +kernel
  sub := by decide +kernel
  ini := fun i x fl h => match i, h with
    | 0, h => by cases h
    | 1, h => by cases h; exact ⟨_, List.Mem.head _⟩
    | 2, h => by cases h; exact ⟨_, List.Mem.tail _ (List.Mem.head _)⟩
    | 3, h => by cases h; exact ⟨_, List.Mem.tail _ (List.Mem.tail _ (List.Mem.head _))⟩
    | 4, h => by cases h; exact ⟨_, List.Mem.tail _ (List.Mem.tail _ (List.Mem.tail _ (List.Mem.head _)))⟩
    | i + 5, h => by cases h
  inD := fun p hp => by
    have hp : p ∈ iniL := hp
    unfold iniL at hp
    simp only [List.mem_cons, List.not_mem_nil, or_false] at hp
    rcases hp with rfl | rfl | rfl | rfl <;> exact ⟨rfl, rfl, rfl, rfl, by decide, by decide, _, _, _, _, _, _, rfl, rfl, rfl⟩
  df := fun i => match i with
    | 0 => df_of rfl rfl df0
    | 1 => df_of rfl rfl df1
    | 2 => df_of rfl rfl df2
    | 3 => df_of rfl rfl df3
    | 4 => df_of rfl rfl df4
    | 5 => df_of rfl rfl df5
    | 6 => df_of rfl rfl df6
    | 7 => df_of rfl rfl df7
    | 8 => df_of rfl rfl df8
    | 9 => df_of rfl rfl df9
    | 10 => df_of rfl rfl df10
    | 11 => df_of rfl rfl df11
    | 12 => df_of rfl rfl df12
    | 13 => df_of rfl rfl df13
    | 14 => df_of rfl rfl df14
    | 15 => df_of rfl rfl df15
    | 16 => df_of rfl rfl df16
    | 17 => df_of rfl rfl df17
    | 18 => df_of rfl rfl df18
    | 19 => df_of rfl rfl df19
    | 20 => df_of rfl rfl df20
    | 21 => df_of rfl rfl df21
    | 22 => df_of rfl rfl df22
    | 23 => df_of rfl rfl df23
    | 24 => df_of rfl rfl df24
    | 25 => df_of rfl rfl df25
    | 26 => df_of rfl rfl df26
    | 27 => df_of rfl rfl df27
    | 28 => df_of rfl rfl df28
    | 29 => df_of rfl rfl df29
    | 30 => df_of rfl rfl df30
    | 31 => df_of rfl rfl df31
    | 32 => df_of rfl rfl df32
    | 33 => df_of rfl rfl df33
    | 34 => df_of rfl rfl df34
    | 35 => df_of rfl rfl df35
    | 36 => df_of rfl rfl df36
    | 37 => df_of rfl rfl df37
    | 38 => df_of rfl rfl df38
    | 39 => df_of rfl rfl df39
    | 40 => df_of rfl rfl df40
    | 41 => df_of rfl rfl df41
    | i + 42 => fun _ h => by cases h
end Ev
namespace Ev
open PySem PySem.Calls
abbrev cF0 := callF pg 199
abbrev cV0 := callV pg 199
def body41 : Ss := fn41.body
def en0 : Env := ⟨[some (.ref 0), none, none, none], [none, none, none, none]⟩
def run0 (ns : List Int) : R Fl := evS cF0 cV0 pg.cls body41.hd en0 (startS ns)
def s1 (ns : List Int) : S := (run0 ns).st (startS ns)
def en1 (ns : List Int) : Env := (run0 ns).nxE en0
def run1 (ns : List Int) : R D := evE cF0 cV0 (.call 39 [] .nil .nil) (en1 ns) (s1 ns)
def s2 (ns : List Int) : S := (run1 ns).st (startS ns)
def v2 (ns : List Int) : D := (run1 ns).vl .non
def rst41 : Ss := body41.tl.tl
theorem t0 (ns : List Int) : (run0 ns).isN = true := by kernel_rfl
theorem t1 (ns : List Int) : (run1 ns).isV = true := by kernel_rfl
theorem tg (ns : List Int) : (en1 ns).get 1 = some (.ref 2) := by kernel_rfl
theorem tk (ns : List Int) : (s2 ns).h.get 1 = some (.lst (ns.map .int)) := by kernel_rfl
theorem tl (ns : List Int) : (s2 ns).h.get 2 = some (.lst [.ref 1, .int 0, .int 0, .int 17]) := by kernel_rfl
def eA (r : Int) : E := .lst (.cons (.lst (.cons (.lst (.cons (.bin .add (.int 1) (.int r)) .nil)) .nil)) (.cons (.call 37 [] (.cons (.int 3) .nil) .nil) .nil))
def fin (r : Int) (ns zs : List Int) (a c : Int) : R D := (((asgB cF0 cV0 .add (.nm (.v 2)) (v2 ns) (eA r) (en1 ns) (st2 (s2 ns) zs a 1 c)).bind (goOn cF0 cV0 pg.cls rst41)).bind fun f s => leave f s).drop en0.ce []
theorem fin0 (ns zs : List Int) (a c : Int) : okT (fin 0 ns zs a c) = true := by kernel_rfl
theorem fin1 (ns zs : List Int) (a c : Int) : okT (fin 1 ns zs a c) = true := by kernel_rfl
theorem fin2 (ns zs : List Int) (a c : Int) : okT (fin 2 ns zs a c) = true := by kernel_rfl
theorem fin3 (ns zs : List Int) (a c : Int) : okT (fin 3 ns zs a c) = true := by kernel_rfl
theorem fin4 (ns zs : List Int) (a c : Int) : okT (fin 4 ns zs a c) = true := by kernel_rfl
theorem good77 : Good pg 200 41 := by
  intro ns hl hb
  obtain ⟨r, zs, a, c, h34, r0, r1, _, _, _, _⟩ := draw_ok (P := pg) (f := 34) (k := 198) (s := s2 ns) (zs := ns) (a := 0) (b := 0) (c := 17) (m := 5) rfl (by decide) (by decide) (by decide) (by decide) (by decide) (by decide) (by decide) (by omega)
  rw [st2_id (tk ns) (tl ns)] at h34
  refine okT_ok ?_
  rw [callF, show pg.fns[41]? = some fn41 from rfl]
  simp only [show fn41.np = 1 from rfl, List.length_cons, List.length_nil, show Nat.beq (0 + 1) 1 = true from rfl, cond_true]
  rw [show enter fn41 [.ref 0] (startS ns) = (en0, startS ns) from rfl]
  show okT (((evSs cF0 cV0 pg.cls (.cons body41.hd (.cons body41.tl.hd rst41)) en0 (startS ns)).bind fun f s => leave f s).drop en0.ce []) = true
  have k0 : evS cF0 cV0 pg.cls body41.hd en0 (startS ns) = .ok (.nx (en1 ns)) (s1 ns) := isN_ok (t0 ns)
  have k1 : evE cF0 cV0 (.call 39 [] .nil .nil) (en1 ns) (s1 ns) = .ok (v2 ns) (s2 ns) := isV_ok (t1 ns)
  have k2 : evE cF0 cV0 (.lst (.cons (.lst (.cons (.lst (.cons (.bin .add (.int (1)) (.call 34 [] (.cons (.var 1) (.cons (.int (5)) .nil)) .nil)) .nil)) .nil)) (.cons (.call 37 [] (.cons (.int (3)) .nil) .nil) .nil))) (en1 ns) (s2 ns) = evE cF0 cV0 (eA r) (en1 ns) (st2 (s2 ns) zs a 1 c) := by
    unfold eA
    simp only [evE, evEs, ofO, R.bind_ok, List.append_nil, permW, tg, h34]
    rfl
  rw [ss_step k0]
  have e : body41.tl.hd = .asg (.nm (.v 2)) (.bin .add (.call 39 [] .nil .nil) (.lst (.cons (.lst (.cons (.lst (.cons (.bin .add (.int (1)) (.call 34 [] (.cons (.var 1) (.cons (.int (5)) .nil)) .nil)) .nil)) .nil)) (.cons (.call 37 [] (.cons (.int (3)) .nil) .nil) .nil)))) := rfl
  rw [e, ss_asgB k1 k2]
  have : r = 0 ∨ r = 1 ∨ r = 2 ∨ r = 3 ∨ r = 4 := by omega
  rcases this with rfl | rfl | rfl | rfl | rfl
  · exact fin0 ns zs a c
  · exact fin1 ns zs a c
  · exact fin2 ns zs a c
  · exact fin3 ns zs a c
  · exact fin4 ns zs a c
end Ev
open PySem PySem.W PySem.Calls PyProof.Rows
theorem PySem.Challenge.cw_spacedrows_k77_two_ways_refused_holds : PySem.Challenge.rw_spacedrows_k77_two_ways_refused.Holds := by
  w_on; o_law
  refine HandSHeadRun.head_any (r := Ev.Rk) (q := view Ev.Rk.prog [54]) (H := Ev.hkk) (ob := Ev.obk) (M := 6000) (loose := Ev.looseK) (d := HandSHeadRun.topDef Ev.Rk.prog 54) (kwd := []) Ev.obk_eq
    (by kernel_rfl) (fun s => by kernel_rfl) Ev.runk (by kernel_rfl) (by kernel_rfl) (by kernel_rfl) (by rfl) (by first | assumption | decide +kernel) (by decide +kernel) ⟨rfl, rfl, rfl, rfl, rfl, by decide +kernel⟩ ?hw ?hc
  case hw => w_witness2
  case hc =>
    refine LamX.walk_ofTsE (l := PySem.Challenge.rw_spacedrows_k77_two_ways_refused) (n := 63) (k := 201) (x := "script") (CX := fun w => L2.CX (PySem.Challenge.rw_spacedrows_k77_two_ways_refused).prog w) rfl (by decide) (by kernel_rfl) ⟨rfl, by decide, by decide⟩ ?F ?hx
    case F =>
      intro w mg fa h Y G hmg0
      obtain ⟨K, KX, S⟩ := Y
      have hmg : mg ("law" : PySem.Str) = some (.ref fa) := by
        have e : (HandSHeadRun.topDef Ev.Rk.prog 54).name = ("law" : PySem.Str) := by kernel_rfl
        rw [← e]
        exact hmg0
      exact ⟨K, KX, Ev.law_at (T := Ev.LTk) (n := 199) (li := 41) Ev.okk KX G S rfl hmg (FL := Ev.fn41) rfl (by intro z; cases z) Ev.good77⟩
    case hx =>
      intro w H s e s' h
      obtain ⟨_, _, _, _, _, _, _, _, _, _, _, _, z⟩ := h
      exact z
