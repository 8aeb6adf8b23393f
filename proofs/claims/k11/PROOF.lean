import PyProof.Rows.All
import HandS.Codes
import HandS.Comp
import HandS.Ends
import HandS.ExcField
import HandS.ExcInit
import HandS.ExcIs
import HandS.FStr
import HandS.FStrTup
import HandS.Flow
import HandS.ForExc
import HandS.ForMost
import HandS.Head0
import HandS.Head1
import HandS.Head2
import HandS.HeadHook1
import HandS.TupAny
import KE.KExcInit
import KE.KExcSuper
import KE.KIsAll
import KE.KSuper
import PyProof.FitsInt
import PyProof.ReprLen
import PyProof.StrOps2
import PySem.Challenge.RW_worthhouse_k11_errors
set_option Elab.async false
set_option linter.all false
set_option maxRecDepth 100000
/-! a bound of the length of a repr, without the text -/
namespace Pyi
open PySem
mutual
def shB : PyData → Nat
  | .none => 4
  | .bool _ => 5
  | .int _ => 610
  | .str x => 10 * x.length + 2
  | .list xs => shBs xs + 3
  | .tuple xs => shBs xs + 3
  | .dict _ => 0
def shBs : List PyData → Nat
  | [] => 0
  | x :: xs => shB x + 2 + shBs xs
end
mutual
/-- may be shown, and the bound holds -/
def shOk : PyData → Bool
  | .none => true
  | .bool _ => true
  | .int i => decide (i.natAbs.log2 < 1920)
  | .str x => x.cps.toList.all fun c => Nat.blt c 4294967296
  | .list xs => shOks xs
  | .tuple xs => shOks xs
  | .dict _ => false
def shOks : List PyData → Bool
  | [] => true
  | x :: xs => shOk x && shOks xs
end
mutual
/-- the same data -/
def dEq : PyData → PyData → Bool
  | .none, q => match q with
    | .none => true
    | _ => false
  | .bool a, q => match q with
    | .bool b => a == b
    | _ => false
  | .int a, q => match q with
    | .int b => decide (a = b)
    | _ => false
  | .str a, q => match q with
    | .str b => decide (a = b)
    | _ => false
  | .list xs, q => match q with
    | .list ys => dEqs xs ys
    | _ => false
  | .tuple xs, q => match q with
    | .tuple ys => dEqs xs ys
    | _ => false
  | .dict _, _ => false
def dEqs : List PyData → List PyData → Bool
  | [], q => match q with
    | [] => true
    | _ => false
  | x :: xs, q => match q with
    | y :: ys => dEq x y && dEqs xs ys
    | [] => false
end
mutual
theorem dEq_ok : ∀ (p q : PyData), dEq p q = true → p = q
  | .none, q, h => by cases q <;> first | rfl | cases h
  | .bool a, q, h => by
    cases q <;> first | cases h | skip
    rw [eq_of_beq (show (_ == _) = true from h)]
  | .int a, q, h => by
    cases q <;> first | cases h | skip
    rw [of_decide_eq_true (show decide (_ = _) = true from h)]
  | .str a, q, h => by
    cases q <;> first | cases h | skip
    rw [of_decide_eq_true (show decide (_ = _) = true from h)]
  | .list xs, q, h => by
    cases q with
    | list ys => rw [dEqs_ok xs ys h]
    | _ => cases h
  | .tuple xs, q, h => by
    cases q with
    | tuple ys => rw [dEqs_ok xs ys h]
    | _ => cases h
  | .dict kvs, q, h => by cases h
theorem dEqs_ok : ∀ (p q : List PyData), dEqs p q = true → p = q
  | [], q, h => by cases q <;> first | rfl | cases h
  | x :: xs, q, h => by
    cases q with
    | nil => cases h
    | cons y ys =>
      obtain ⟨h1, h2⟩ := Bool.and_eq_true_iff.mp (show (dEq x y && dEqs xs ys) = true from h)
      rw [dEq_ok x y h1, dEqs_ok xs ys h2]
end
theorem int_len {i : Int} (h : i.natAbs.log2 < 1920) : (Str.ofString (toString i)).length ≤ 610 := by
  have hb : i.natAbs < 10 ^ 600 := by
    by_cases z : i.natAbs = 0
    · rw [z]; exact Nat.pos_of_ne_zero (by simp)
    · have h1 : i.natAbs < 2 ^ 1920 := (Nat.log2_lt z).mp h
      exact Nat.lt_trans h1 (by decide +kernel)
  have e := int_text_length_le10 (k := 600) (by decide) hb
  rw [ofString_length]
  omega
mutual
theorem shown_le : ∀ p : PyData, shOk p = true → p.shown.length ≤ shB p ∧ p.showable = true ∧ p.hasDict = false
  | .none, _ => ⟨by decide, rfl, rfl⟩
  | .bool b, _ => ⟨by cases b <;> decide, rfl, rfl⟩
  | .int i, h => by
    have h : i.natAbs.log2 < 1920 := of_decide_eq_true h
    exact ⟨int_len h, by simpa [PyData.showable] using h, rfl⟩
  | .str x, h => ⟨StrLaws.reprText_len x fun c hc => by
      have h : x.cps.toList.all (fun c => Nat.blt c 4294967296) = true := h
      have z := List.all_eq_true.mp h c hc
      have : c < 4294967296 := Nat.le_of_ble_eq_true z
      omega, rfl, rfl⟩
  | .list xs, h => by
    obtain ⟨a, b, c⟩ := shownAll_le xs h
    refine ⟨?_, by simpa [PyData.showable] using b, by simpa [PyData.hasDict] using c⟩
    have z := listText_len_le (PyData.shownAll xs)
    show (listText (PyData.shownAll xs)).length ≤ shBs xs + 3
    omega
  | .tuple xs, h => by
    obtain ⟨a, b, c⟩ := shownAll_le xs h
    refine ⟨?_, by simpa [PyData.showable] using b, by simpa [PyData.hasDict] using c⟩
    have z := fmt_text (PyData.shownAll xs)
    have y : piled (PyData.shownAll xs) = ((PyData.shownAll xs).map (·.length)).sum + 2 * (PyData.shownAll xs).length := by
      generalize PyData.shownAll xs = l
      induction l with
      | nil => rfl
      | cons t l ih =>
        rw [piled_cons, ih, List.map_cons, List.sum_cons, List.length_cons]
        omega
    show (tupleText (PyData.shownAll xs)).length ≤ shBs xs + 3
    omega
  | .dict kvs, h => by cases h
theorem shownAll_le : ∀ xs : List PyData, shOks xs = true → ((PyData.shownAll xs).map (·.length)).sum + 2 * (PyData.shownAll xs).length ≤ shBs xs ∧ PyData.showableAll xs = true ∧ PyData.hasDictAll xs = false
  | [], _ => ⟨Nat.le_refl _, rfl, rfl⟩
  | x :: xs, h => by
    have h : (shOk x && shOks xs) = true := h
    obtain ⟨h1, h2⟩ := Bool.and_eq_true_iff.mp h
    obtain ⟨a1, b1, c1⟩ := shown_le x h1
    obtain ⟨a2, b2, c2⟩ := shownAll_le xs h2
    refine ⟨?_, ?_, ?_⟩
    · show ((PyData.shown x :: PyData.shownAll xs).map (·.length)).sum + 2 * (PyData.shown x :: PyData.shownAll xs).length ≤ shB x + 2 + shBs xs
      rw [List.map_cons, List.sum_cons, List.length_cons]
      omega
    · show (x.showable && PyData.showableAll xs) = true
      rw [b1, b2]
      rfl
    · show (x.hasDict || PyData.hasDictAll xs) = false
      rw [c1, c2]
      rfl
end
end Pyi
set_option Elab.async false
set_option linter.all false
/-! Pyi: a small interpreter for the fragment of Python that the program and its laws use. Values are trees (tuples too); lists, dicts, instances stand in a heap. -/
namespace Pyi
open PySem

inductive D where
  | non
  | bl (b : Bool)
  | int (i : Int)
  | str (x : Str)
  | tup (xs : List D)
  | ref (a : Nat)
  | cls (c : Nat)

abbrev Fs := List (Nat × D)
inductive O where
  | lst (xs : List D)
  | frz (xs : List D)
  | dic (kvs : List (D × D))
  | ins (c : Nat) (fs : Fs)
  | exo (c : Nat) (fs : Fs)

/-- objects by their numbers: a tree, numbered level by level -/
inductive Tr where
  | nil
  | node (v : Option O) (l r : Tr)
def Tr.get : Tr → Nat → Option O
  | .nil, _ => none
  | .node v l r, k => match k with
    | 0 => v
    | k + 1 => match Nat.beq (k % 2) 0 with
      | true => l.get (k / 2)
      | false => r.get (k / 2)
def Tr.set : Nat → Tr → Nat → O → Tr
  | 0, t, _, _ => t
  | n + 1, t, k, o => match t with
    | .nil => match k with
      | 0 => .node (some o) .nil .nil
      | k + 1 => match Nat.beq (k % 2) 0 with
        | true => .node none (Tr.set n .nil (k / 2) o) .nil
        | false => .node none .nil (Tr.set n .nil (k / 2) o)
    | .node v l r => match k with
      | 0 => .node (some o) l r
      | k + 1 => match Nat.beq (k % 2) 0 with
        | true => .node v (Tr.set n l (k / 2) o) r
        | false => .node v l (Tr.set n r (k / 2) o)
theorem Tr.get_nil (k : Nat) : Tr.nil.get k = none := rfl
theorem Tr.get_set : ∀ (n : Nat) (t : Tr) (k i : Nat) (o : O), k + 1 < 2 ^ n → (Tr.set n t k o).get i = if i = k then some o else t.get i
  | 0, t, k, i, o, h => by simp at h
  | n + 1, t, k, i, o, h => by
    have h2 : ∀ k', k = k' + 1 → k' / 2 + 1 < 2 ^ n := fun k' e => by
      rw [Nat.pow_succ] at h
      omega
    unfold Tr.set
    cases t with
    | nil =>
      cases k with
      | zero =>
        cases i with
        | zero => rfl
        | succ i =>
          show (match Nat.beq (i % 2) 0 with | true => Tr.nil.get (i / 2) | false => Tr.nil.get (i / 2)) = if i + 1 = 0 then some o else none
          cases Nat.beq (i % 2) 0 <;> simp [Tr.get]
      | succ k =>
        have ih := Tr.get_set n .nil (k / 2)
        cases ek : Nat.beq (k % 2) 0 with
        | true =>
          have ek' : k % 2 = 0 := Nat.eq_of_beq_eq_true ek
          simp only [ek]
          cases i with
          | zero => simp [Tr.get]
          | succ i =>
            show (match Nat.beq (i % 2) 0 with | true => (Tr.set n .nil (k / 2) o).get (i / 2) | false => Tr.nil.get (i / 2)) = if i + 1 = k + 1 then some o else none
            cases ei : Nat.beq (i % 2) 0 with
            | true =>
              have ei' : i % 2 = 0 := Nat.eq_of_beq_eq_true ei
              simp only [ih _ _ (h2 k rfl)]
              have : (i / 2 = k / 2) ↔ (i + 1 = k + 1) := by omega
              simp only [this, Tr.get]
            | false =>
              have ei' : i % 2 ≠ 0 := Nat.ne_of_beq_eq_false ei
              rw [if_neg (by omega)]
              rfl
        | false =>
          have ek' : k % 2 ≠ 0 := Nat.ne_of_beq_eq_false ek
          simp only [ek]
          cases i with
          | zero => simp [Tr.get]
          | succ i =>
            show (match Nat.beq (i % 2) 0 with | true => Tr.nil.get (i / 2) | false => (Tr.set n .nil (k / 2) o).get (i / 2)) = if i + 1 = k + 1 then some o else none
            cases ei : Nat.beq (i % 2) 0 with
            | true =>
              have ei' : i % 2 = 0 := Nat.eq_of_beq_eq_true ei
              rw [if_neg (by omega)]
              rfl
            | false =>
              have ei' : i % 2 ≠ 0 := Nat.ne_of_beq_eq_false ei
              simp only [ih _ _ (h2 k rfl)]
              have : (i / 2 = k / 2) ↔ (i + 1 = k + 1) := by omega
              simp only [this, Tr.get]
    | node v l r =>
      cases k with
      | zero =>
        cases i with
        | zero => rfl
        | succ i =>
          rw [if_neg (by omega)]
          rfl
      | succ k =>
        cases ek : Nat.beq (k % 2) 0 with
        | true =>
          have ih := Tr.get_set n l (k / 2)
          have ek' : k % 2 = 0 := Nat.eq_of_beq_eq_true ek
          simp only [ek]
          cases i with
          | zero => rw [if_neg (by omega)]; rfl
          | succ i =>
            show (match Nat.beq (i % 2) 0 with | true => (Tr.set n l (k / 2) o).get (i / 2) | false => r.get (i / 2)) = if i + 1 = k + 1 then some o else (match Nat.beq (i % 2) 0 with | true => l.get (i / 2) | false => r.get (i / 2))
            cases ei : Nat.beq (i % 2) 0 with
            | true =>
              have ei' : i % 2 = 0 := Nat.eq_of_beq_eq_true ei
              simp only [ih _ _ (h2 k rfl)]
              have : (i / 2 = k / 2) ↔ (i + 1 = k + 1) := by omega
              simp only [this]
            | false =>
              have ei' : i % 2 ≠ 0 := Nat.ne_of_beq_eq_false ei
              rw [if_neg (by omega)]
        | false =>
          have ih := Tr.get_set n r (k / 2)
          have ek' : k % 2 ≠ 0 := Nat.ne_of_beq_eq_false ek
          simp only [ek]
          cases i with
          | zero => rw [if_neg (by omega)]; rfl
          | succ i =>
            show (match Nat.beq (i % 2) 0 with | true => l.get (i / 2) | false => (Tr.set n r (k / 2) o).get (i / 2)) = if i + 1 = k + 1 then some o else (match Nat.beq (i % 2) 0 with | true => l.get (i / 2) | false => r.get (i / 2))
            cases ei : Nat.beq (i % 2) 0 with
            | true =>
              have ei' : i % 2 = 0 := Nat.eq_of_beq_eq_true ei
              rw [if_neg (by omega)]
            | false =>
              have ei' : i % 2 ≠ 0 := Nat.ne_of_beq_eq_false ei
              simp only [ih _ _ (h2 k rfl)]
              have : (i / 2 = k / 2) ↔ (i + 1 = k + 1) := by omega
              simp only [this]
/-- the heap: newer objects in the tree, elder ones by g -/
structure Hh where
  n : Nat
  t : Tr
  g : Nat → Option O
def Hh.f (h : Hh) (a : Nat) : Option O := match h.t.get a with
  | some o => some o
  | none => h.g a
def Hh.putT (h : Hh) (a : Nat) (o : O) : Tr := match Nat.blt a 1048576 with
  | true => h.t.set 21 a o
  | false => .nil
def Hh.putG (h : Hh) (a : Nat) (o : O) : Nat → Option O := match Nat.blt a 1048576 with
  | true => h.g
  | false => fun b => if b = a then some o else h.f b
def Hh.put (h : Hh) (a : Nat) (o : O) : Hh := ⟨h.n, h.putT a o, h.putG a o⟩
def Hh.new (h : Hh) (o : O) : Hh := ⟨h.n + 1, h.putT h.n o, h.putG h.n o⟩
/-- all to the elder ones -/
def Hh.norm (h : Hh) : Hh := ⟨h.n, .nil, h.f⟩
theorem Hh.f_mk (h : Hh) (m a i : Nat) (o : O) : Hh.f ⟨m, h.putT a o, h.putG a o⟩ i = if i = a then some o else h.f i := by
  unfold Hh.putT Hh.putG
  cases e : Nat.blt a 1048576 with
  | true =>
    have ha : a < 1048576 := Nat.lt_of_lt_of_le (Nat.le_of_ble_eq_true e) (Nat.le_refl _)
    show (match (Tr.set 21 h.t a o).get i with | some o => some o | none => h.g i) = _
    rw [Tr.get_set 21 h.t a i o (by have : (2 : Nat) ^ 21 = 2097152 := by decide
                                    omega)]
    by_cases q : i = a
    · rw [if_pos q, if_pos q]
    · rw [if_neg q, if_neg q]
      rfl
  | false => rfl
theorem Hh.f_put (h : Hh) (a i : Nat) (o : O) : (h.put a o).f i = if i = a then some o else h.f i := Hh.f_mk h h.n a i o
theorem Hh.f_new (h : Hh) (i : Nat) (o : O) : (h.new o).f i = if i = h.n then some o else h.f i := Hh.f_mk h (h.n + 1) h.n i o
theorem Hh.f_norm (h : Hh) (i : Nat) : h.norm.f i = h.f i := rfl

inductive R (α : Type) where
  | ok (a : α) (h : Hh)
  | exc (c : Nat) (fs : Fs) (h : Hh)
  | bad
def R.bind {α β : Type} (r : R α) (k : α → Hh → R β) : R β := match r with
  | .ok a h => k a h
  | .exc c fs h => .exc c fs h
  | .bad => .bad

def R.of {α : Type} : Option (α × Hh) → R α
  | some (a, h) => .ok a h
  | none => .bad

abbrev St := List (Option D)

/-- kinds for isinstance: an own class, or a built-in one -/
inductive Ty where
  | own (c : Nat)
  | bex (b : Nat)
  | int | str | list | tuple | dict | bool
  deriving DecidableEq

inductive P where
  | add | sub | mul | fdiv | mod | pow
  | eq | ne | lt | le | gt | ge | isn | notn | inn | nin
  | neg
  | tup | lst
  | ix | slice
  | len | int | repr | listof | tupof
  | isin (ts : List Ty)
  | eqE | neE
  | append
  | fld (f : Nat)

mutual
inductive E where
  | stuck
  | var (i : Nat)
  | con (d : D)
  | prim (p : P) (es : Es)
  | and (a b : E)
  | or (a b : E)
  | not (a : E)
  | ite (t a b : E)
  | chain (p q : P) (a b c : E)
  | cmpR (neg : Bool) (a b : E)
  | call (f : Nat) (es : Es)
  | mexc (c : Nat) (es : Es)
  | comp (own : List Nat) (g : G) (s : Src) (cs : Es) (e : E)
inductive Es where
  | nil
  | cons (e : E) (es : Es)
inductive Src where
  | stuck
  | val (e : E)
  | rng1 (e : E)
  | rng2 (a b : E)
inductive G where
  | stuck
  | name (i : Nat)
  | tup (gs : Gs)
  | sub (o i : E)
inductive Gs where
  | nil
  | cons (g : G) (gs : Gs)
end
mutual
inductive S where
  | stuck
  | brk
  | cnt
  | while_ (t : E) (b : Ss)
  | expr (e : E)
  | ret (e : E)
  | asg (g : G) (e : E)
  | ifs (t : E) (a b : Ss)
  | for_ (g : G) (s : Src) (b : Ss)
  | pass
  | nrm
inductive Ss where
  | nil
  | cons (s : S) (ss : Ss)
end

/-- a part of an exception's text -/
inductive Mp where
  | txt (x : Str)
  | fmt (i : Nat)
  | rep (i : Nat)
  deriving DecidableEq
/-- an exception class: the fields that its __init__ stores: name, the parameter's place, whether tuple() is taken of it -/
structure Cls where
  mro : List Ty
  exc : Bool
  np : Nat
  fld : List (Nat × Nat × Bool)
  msg : List Mp
structure Fn where
  np : Nat
  ns : Nat
  body : Ss
structure Tab where
  fns : List Fn
  clss : List Cls

def O.items : O → Option (List D)
  | .lst xs => some xs
  | .frz xs => some xs
  | _ => none
def seqOf (h : Hh) : D → Option (List D)
  | .tup xs => some xs
  | .ref a => (h.f a).bind O.items
  | _ => none

/-- what is walked -/
inductive It where
  | fix (xs : List D)
  | rng (lo : Int) (n : Nat)
  | lst (a : Nat)
/-- the item at turn i: none: stuck; some none: the end -/
def It.at (it : It) (i : Nat) (h : Hh) : Option (Option D) := match it with
  | .fix xs => some xs[i]?
  | .rng lo n => some (if i < n then some (.int (lo + i)) else none)
  | .lst a => ((h.f a).bind O.items).map fun xs => xs[i]?

/-- data, read through the heap -/
def data : Nat → Hh → D → Option PyData
  | 0, _, _ => none
  | k + 1, h, d => match d with
    | .non => some .none
    | .bl b => some (.bool b)
    | .int i => some (.int i)
    | .str x => some (.str x)
    | .tup xs => (xs.mapM (data k h)).map .tuple
    | .ref a => match (h.f a).bind O.items with
      | some xs => (xs.mapM (data k h)).map .list
      | none => none
    | .cls _ => none

def isTy (T : Tab) (h : Hh) (d : D) (t : Ty) : Option Bool := match d with
  | .ref a => match h.f a with
    | some (.exo k _) => (T.clss[k]?).bind fun q => if q.exc then some (q.mro.contains t) else none
    | _ => none
  | _ => none

abbrev PO := Option (D × Hh)
def okI (i : Int) (h : Hh) : PO := some (.int i, h)
def okB (b : Bool) (h : Hh) : PO := some (.bl b, h)

def smallI (i : Int) : Bool := decide (-(2 ^ 64) < i) && decide (i < 2 ^ 64)

def pAdd : D → D → Hh → PO
  | .int i, .int j, h => okI (i + j) h
  | .str x, .str y, h => if x.length + y.length ≤ sizeLine then some (.str (x ++ y), h) else none
  | .ref a, .ref b, h => match h.f a, h.f b with
    | some (.lst xs), some (.lst ys) => if xs.length + ys.length ≤ sizeLine then some (.ref h.n, h.new (.lst (xs ++ ys))) else none
    | _, _ => none
  | _, _, _ => none
def strRep (x : Str) (k : Nat) : Str := ⟨((List.replicate k x.cps.toList).flatten).toArray⟩

def pMul : D → D → Hh → PO
  | .str x, .int k, h => if -(2 ^ 63) ≤ k ∧ k < 2 ^ 63 ∧ x.length * k.toNat ≤ sizeLine then some (.str (strRep x k.toNat), h) else none
  | .int i, .int j, h => if smallI i || smallI j then okI (i * j) h else none
  | .ref a, .int k, h => match h.f a with
    | some (.lst xs) => if -(2 ^ 63) ≤ k ∧ k < 2 ^ 63 ∧ xs.length * k.toNat ≤ sizeLine then some (.ref h.n, h.new (.lst (List.replicate k.toNat xs).flatten)) else none
    | _ => none
  | _, _, _ => none
def pEq (neg : Bool) (x y : D) (h : Hh) : PO := match data 40 h x, data 40 h y with
  | some p, some q => if SeqAt.shaped p && SeqAt.shaped q then okB (neg != PyData.eqv p q) h else none
  | _, _ => none
/-- x == [], x != [] -/
def pEqE (neg : Bool) (x : D) (h : Hh) : PO := match data 40 h x with
  | some p => if SeqAt.shaped p then okB (neg != PyData.eqv p (.list [])) h else none
  | none => none
def pIx (x y : D) (h : Hh) : PO := match seqOf h x, y with
  | some xs, .int i => match L2.atI xs i with
    | some d => some (d, h)
    | none => none
  | _, _ => none
def optI : D → Option (Option Int)
  | .non => some none
  | .int i => some (some i)
  | _ => none
def pSlice (x lo hi : D) (h : Hh) : PO := match x, optI lo, optI hi with
  | .ref a, some l, some u => match seqOf h (.ref a) with
    | some xs => some (.ref h.n, h.new (.lst ((xs.drop (HT.sIx xs.length 0 l)).take (HT.sIx xs.length xs.length u - HT.sIx xs.length 0 l))))
    | none => none
  | _, _, _ => none
def pNum (p : P) : D → D → Hh → PO
  | .int i, .int j, h => match p with
    | .sub => okI (i - j) h
    | .fdiv => if 0 < j ∧ j < 1073741824 then okI (i / j) h else none
    | .mod => if 0 < j then okI (i % j) h else none
    | .pow => if 0 ≤ j ∧ j ≤ 1000000 ∧ i.natAbs < 2 ^ 64 then okI (i ^ j.toNat) h else none
    | .lt => okB (decide (i < j)) h
    | .le => okB (decide (i ≤ j)) h
    | .gt => okB (decide (j < i)) h
    | .ge => okB (decide (j ≤ i)) h
    | _ => none
  | _, _, _ => none
def isNon : D → Bool
  | .non => true
  | _ => false
def pIsin (T : Tab) (ts : List Ty) (d : D) (h : Hh) : PO := match ts with
  | [t] => match isTy T h d t with
    | some b => okB b h
    | none => none
  | _ => none
/-- may be shown: the bound of its text -/
def lenD (h : Hh) (d : D) : Option (PyData × Nat) := match data 40 h d with
  | some p => if shOk p && Nat.ble (shB p) sizeLine && Nat.ble p.depth 40 then some (p, shB p) else none
  | none => none
def showR (h : Hh) (d : D) : Option Str := (lenD h d).map fun q => q.1.shown
def pRepr (d : D) (h : Hh) : PO := (showR h d).map fun x => (.str x, h)
def keysOk (fs : Fs) : Bool := decide ((fs.map (·.1)).Nodup)
def pFld (T : Tab) (f : Nat) (d : D) (h : Hh) : PO := match d with
  | .ref a => match h.f a with
    | some (.exo c fs) => match T.clss[c]? with
      | some q => if q.exc && q.fld.any (fun p => p.1 == f) && keysOk fs then (match fs.lookup f with
        | some v => some (v, h)
        | none => none) else none
      | none => none
    | _ => none
  | _ => none
def pAppend (x y : D) (h : Hh) : PO := match x with
  | .ref a => match h.f a with
    | some (.lst xs) => if xs.length < sizeLine then some (.non, h.put a (.lst (xs ++ [y]))) else none
    | _ => none
  | _ => none

def pLen (x : D) (h : Hh) : PO := match seqOf h x with
  | some xs => okI xs.length h
  | none => match x with
    | .str y => if y.length ≤ sizeLine then okI y.length h else none
    | _ => none
def pInt : D → Hh → PO
  | .int i, h => okI i h
  | .bl b, h => okI (if b then 1 else 0) h
  | _, _ => none
def pList (x : D) (h : Hh) : PO := (seqOf h x).map fun xs => (.ref h.n, h.new (.lst xs))
def pTup (x : D) (h : Hh) : PO := (seqOf h x).map fun xs => (.tup xs, h)
def prim1 (T : Tab) (p : P) (x : D) (h : Hh) : PO := match p with
  | .isn => okB (isNon x) h
  | .notn => okB (!isNon x) h
  | .len => pLen x h
  | .int => pInt x h
  | .repr => pRepr x h
  | .listof => pList x h
  | .tupof => pTup x h
  | .isin ts => pIsin T ts x h
  | .eqE => pEqE false x h
  | .neE => pEqE true x h
  | .fld f => pFld T f x h
  | _ => none
def prim2 (p : P) (x y : D) (h : Hh) : PO := match p with
  | .add => pAdd x y h
  | .mul => pMul x y h
  | .sub => pNum .sub x y h
  | .fdiv => pNum .fdiv x y h
  | .mod => pNum .mod x y h
  | .pow => pNum .pow x y h
  | .lt => pNum .lt x y h
  | .le => pNum .le x y h
  | .gt => pNum .gt x y h
  | .ge => pNum .ge x y h
  | .eq => pEq false x y h
  | .ne => pEq true x y h
  | .ix => pIx x y h
  | .append => pAppend x y h
  | _ => none
def prim3 (p : P) (x y z : D) (h : Hh) : PO := match p with
  | .slice => pSlice x y z h
  | _ => none
def primN (T : Tab) (p : P) (ds : List D) (h : Hh) : PO := match ds with
  | [x] => prim1 T p x h
  | [x, y] => prim2 p x y h
  | [x, y, z] => prim3 p x y z h
  | _ => none
def prim (T : Tab) (p : P) (ds : List D) (h : Hh) : PO := match p with
  | .tup => if ds.length ≤ sizeLine then some (.tup ds, h) else none
  | .lst => if ds.length ≤ sizeLine then some (.ref h.n, h.new (.lst ds)) else none
  | p => primN T p ds h

/-- truth -/
def truth (h : Hh) : D → Option Bool
  | .non => some false
  | .bl b => some b
  | .int i => some (i != 0)
  | .str x => if x.length ≤ sizeLine then some ((x.length : Int) != 0) else none
  | .tup xs => some (!xs.isEmpty)
  | .ref a => ((h.f a).bind O.items).map fun xs => !xs.isEmpty
  | .cls _ => none
def rTruth (d : D) (h : Hh) : R Bool := R.of ((truth h d).map fun b => (b, h))

/-- a value in an f-string -/
abbrev showD := showR
def fmtD (h : Hh) (d : D) : Option Str := match d with
  | .str x => if x.length ≤ sizeLine then some x else none
  | .int i => if i.natAbs.log2 < 1920 then some (toString i) else none
  | .tup xs => showD h (.tup xs)
  | .ref a => showD h (.ref a)
  | _ => none
def mpText (ds : List D) (h : Hh) : Mp → Option Str
  | .txt x => some x
  | .fmt i => (ds[i]?).bind (fmtD h)
  | .rep i => (ds[i]?).bind (showD h)
def fmtLen (h : Hh) (d : D) : Option Nat := match d with
  | .str x => if x.length ≤ sizeLine then some x.length else none
  | .int i => if i.natAbs.log2 < 1920 then some 610 else none
  | .tup xs => (lenD h (.tup xs)).map (·.2)
  | .ref a => (lenD h (.ref a)).map (·.2)
  | _ => none
def mpLen (ds : List D) (h : Hh) : Mp → Option Nat
  | .txt x => some x.length
  | .fmt i => (ds[i]?).bind (fmtLen h)
  | .rep i => (ds[i]?).bind fun d => (lenD h d).map (·.2)
/-- the bound of a message's length -/
def msgLen (ds : List D) (h : Hh) : List Mp → Nat → Option Nat
  | [], acc => some acc
  | m :: ms, acc => match mpLen ds h m with
    | some k => if Nat.ble (acc + k) sizeLine then msgLen ds h ms (acc + k) else none
    | none => none
/-- the fields of a new exception -/
def excFlds (ds : List D) (h : Hh) : List (Nat × Nat × Bool) → Option Fs
  | [] => some []
  | (f, i, t) :: r => match ds[i]?, excFlds ds h r with
    | some d, some fs => if t then (match seqOf h d with
        | some xs => some ((f, .tup xs) :: fs)
        | none => none) else some ((f, d) :: fs)
    | _, _ => none
def mkExc (T : Tab) (c : Nat) (ds : List D) (h : Hh) : PO := match T.clss[c]? with
  | some q => if q.exc && decide (ds.length = q.np) then (match msgLen ds h q.msg 0, excFlds ds h q.fld with
      | some _, some fs => some (.ref h.n, h.new (.exo c fs))
      | _, _ => none) else none
  | none => none

def wipe (σ : St) : List Nat → St
  | [] => σ
  | v :: vs => (wipe σ vs).set v none

inductive SR where
  | next (σ : St) (h : Hh)
  | brk (σ : St) (h : Hh)
  | cnt (σ : St) (h : Hh)
  | ret (d : D) (h : Hh)
  | exc (c : Nat) (fs : Fs) (σ : St) (h : Hh)
  | bad

def R.opt {α : Type} : R α → Option (α × Hh)
  | .ok a h => some (a, h)
  | _ => none
/-- o[i] = d -/
def setIx (x y d : D) (h : Hh) : Option Hh := match x, y with
  | .ref a, .int k => match h.f a with
    | some (.lst xs) => (L2.ixN xs.length k).map fun j => h.put a (.lst (xs.set j d))
    | _ => none
  | _, _ => none
section
variable (T : Tab) (cl : Nat → List D → Hh → R D)

/-- what is raised within is not wished -/
def R.tame {α : Type} : R α → R α
  | .ok a h => .ok a h
  | _ => .bad
/-- behind a turn of a comprehension whose list stands at dd -/
def compPut (dd : Nat) (k : Hh → R D) (q : Option D) (h1 : Hh) : R D := match q with
  | some v => match h1.f dd with
    | some (.lst acc) => if acc.length < sizeLine then k (h1.put dd (.lst (acc ++ [v]))) else .bad
    | _ => .bad
  | none => k h1
/-- its turns: step: what is put (none: nothing) -/
def compLoop (step : D → Hh → R (Option D)) (it : It) (dd : Nat) : Nat → Nat → Hh → R D
  | 0, _, _ => .bad
  | m + 1, i, h => match it.at i h with
    | none => .bad
    | some none => .ok (.ref dd) h
    | some (some d) => (step d h).bind (compPut dd (compLoop step it dd m (i + 1)))
def compStep (st : D → St → Hh → Option (St × Hh)) (cs : St → Hh → R Bool) (ev : St → Hh → R D) (σ : St) (d : D) (h : Hh) : R (Option D) :=
  (R.of (st d σ h)).bind fun σ2 h3 => (cs σ2 h3).tame.bind fun t h4 => if t then (ev σ2 h4).tame.bind fun v h5 => .ok (some v) h5 else .ok none h4
/-- a p b q c: behind the first comparison -/
def chainK (q : P) (ev : Hh → R D) (y : D) (r : D) (h : Hh) : R D := match r with
  | .bl true => (ev h).bind fun z h1 => R.of (prim2 q y z h1)
  | .bl false => .ok (.bl false) h
  | _ => .bad
/-- repr(x) == repr(y), repr(x) != repr(y): by the data, if it is the same -/
def cmpK2 (neg : Bool) (p : PyData) (y : D) (h : Hh) : R D := match lenD h y with
  | some q => match dEq p q.1 with
    | true => .ok (.bl (neg != true)) h
    | false => .bad
  | none => .bad
def cmpK (neg : Bool) (ev : Hh → R D) (x : D) (h : Hh) : R D := match lenD h x with
  | some p => (ev h).bind (cmpK2 neg p.1)
  | none => .bad
def look (σ : St) (i : Nat) (h : Hh) : R D := match σ[i]? with
  | some (some d) => .ok d h
  | _ => .bad
def turns : Nat := 1048576

mutual
def evalE : E → St → Hh → R D
  | .stuck, _, _ => .bad
  | .var i, σ, h => look σ i h
  | .con d, _, h => .ok d h
  | .prim p es, σ, h => (evalEs es σ h).bind fun ds h1 => R.of (prim T p ds h1)
  | .and a b, σ, h => (evalE a σ h).bind fun d h1 => (rTruth d h1).bind fun t h2 => if t then evalE b σ h2 else .ok d h2
  | .or a b, σ, h => (evalE a σ h).bind fun d h1 => (rTruth d h1).bind fun t h2 => if t then .ok d h2 else evalE b σ h2
  | .not a, σ, h => (evalE a σ h).bind fun d h1 => (rTruth d h1).bind fun t h2 => .ok (.bl (!t)) h2
  | .ite t a b, σ, h => (evalT t σ h).bind fun c h1 => if c then evalE a σ h1 else evalE b σ h1
  | .chain p q a b c, σ, h => (evalE a σ h).bind fun x h1 => (evalE b σ h1).bind fun y h2 => (R.of (prim2 p x y h2)).bind fun r h3 => chainK q (evalE c σ) y r h3
  | .cmpR neg a b, σ, h => (evalE a σ h).bind fun x h1 => cmpK neg (evalE b σ) x h1
  | .call f es, σ, h => (evalEs es σ h).bind fun ds h1 => cl f ds h1
  | .mexc c es, σ, h => (evalEs es σ h).bind fun ds h1 => R.of (mkExc T c ds h1)
  | .comp own g s cs e, σ, h => (evalSrc s σ h).bind fun it h1 =>
      compLoop (compStep (store g) (evalCs cs) (evalE e) (wipe σ own)) it h1.n turns 0 (h1.new (.lst []))
termination_by structural e => e
def evalT : E → St → Hh → R Bool
  | .stuck, _, _ => .bad
  | .not a, σ, h => (evalT a σ h).bind fun t h1 => .ok (!t) h1
  | .and a b, σ, h => (evalT a σ h).bind fun t h1 => if t then evalT b σ h1 else .ok false h1
  | .or a b, σ, h => (evalT a σ h).bind fun t h1 => if t then .ok true h1 else evalT b σ h1
  | .ite t a b, σ, h => (evalT t σ h).bind fun c h1 => if c then evalT a σ h1 else evalT b σ h1
  | .var i, σ, h => (look σ i h).bind rTruth
  | .con d, _, h => rTruth d h
  | .prim p es, σ, h => ((evalEs es σ h).bind fun ds h1 => R.of (prim T p ds h1)).bind rTruth
  | .chain p q a b c, σ, h => ((evalE a σ h).bind fun x h1 => (evalE b σ h1).bind fun y h2 => (R.of (prim2 p x y h2)).bind fun r h3 => chainK q (evalE c σ) y r h3).bind rTruth
  | .cmpR neg a b, σ, h => ((evalE a σ h).bind fun x h1 => cmpK neg (evalE b σ) x h1).bind rTruth
  | .call f es, σ, h => ((evalEs es σ h).bind fun ds h1 => cl f ds h1).bind rTruth
  | .mexc c es, σ, h => ((evalEs es σ h).bind fun ds h1 => R.of (mkExc T c ds h1)).bind rTruth
  | .comp own g s cs e, σ, h => ((evalSrc s σ h).bind fun it h1 =>
      compLoop (compStep (store g) (evalCs cs) (evalE e) (wipe σ own)) it h1.n turns 0 (h1.new (.lst []))).bind rTruth
termination_by structural e => e
def evalEs : Es → St → Hh → R (List D)
  | .nil, _, h => .ok [] h
  | .cons e es, σ, h => (evalE e σ h).bind fun d h1 => (evalEs es σ h1).bind fun ds h2 => .ok (d :: ds) h2
termination_by structural e => e
def evalCs : Es → St → Hh → R Bool
  | .nil, _, h => .ok true h
  | .cons e es, σ, h => (evalT e σ h).bind fun t h1 => if t then evalCs es σ h1 else .ok false h1
termination_by structural e => e
def evalSrc : Src → St → Hh → R It
  | .stuck, _, _ => .bad
  | .val e, σ, h => (evalE e σ h).bind fun d h1 => match d with
    | .tup xs => .ok (.fix xs) h1
    | .ref a => match seqOf h1 (.ref a) with
      | some _ => .ok (.lst a) h1
      | none => .bad
    | _ => .bad
  | .rng1 e, σ, h => (evalE e σ h).bind fun d h1 => match d with
    | .int j => if -(2 ^ 62) ≤ j ∧ j < 2 ^ 62 then .ok (.rng 0 j.toNat) h1 else .bad
    | _ => .bad
  | .rng2 a b, σ, h => (evalE a σ h).bind fun d h1 => (evalE b σ h1).bind fun d' h2 => match d, d' with
    | .int i, .int j => if (-(2 ^ 62) ≤ i ∧ i < 2 ^ 62) ∧ (-(2 ^ 62) ≤ j ∧ j < 2 ^ 62) then .ok (.rng i (j - i).toNat) h2 else .bad
    | _, _ => .bad
termination_by structural e => e
def store : G → D → St → Hh → Option (St × Hh)
  | .stuck, _, _, _ => none
  | .name i, d, σ, h => some (σ.set i (some d), h)
  | .tup gs, d, σ, h => match d with
    | .tup xs => stores gs xs σ h
    | _ => none
  | .sub o i, d, σ, h => (evalE o σ h).opt.bind fun p => (evalE i σ p.2).opt.bind fun q => (setIx p.1 q.1 d q.2).map fun h3 => (σ, h3)
termination_by structural e => e
def stores : Gs → List D → St → Hh → Option (St × Hh)
  | .nil, xs, σ, h => match xs with
    | [] => some (σ, h)
    | _ :: _ => none
  | .cons g gs, xs, σ, h => match xs with
    | [] => none
    | d :: r => (store g d σ h).bind fun p => stores gs r p.1 p.2
termination_by structural e => e
end

mutual
def G.slots : G → List Nat
  | .name i => [i]
  | .tup gs => gs.slots
  | _ => []
def Gs.slots : Gs → List Nat
  | .nil => []
  | .cons g gs => g.slots ++ gs.slots
end
def SR.of {α : Type} (r : R α) (σ : St) (k : α → Hh → SR) : SR := match r with
  | .ok a h => k a h
  | .exc c fs h => .exc c fs σ h
  | .bad => .bad

def forLoop (step : D → St → Hh → SR) (it : It) : Nat → Nat → St → Hh → SR
  | 0, _, _, _ => .bad
  | m + 1, i, σ, h => match it.at i h with
    | none => .bad
    | some none => .next σ h
    | some (some d) => match step d σ h with
      | .next σ1 h1 => forLoop step it m (i + 1) σ1 h1
      | .cnt σ1 h1 => forLoop step it m (i + 1) σ1 h1
      | .brk σ1 h1 => .next σ1 h1
      | .ret d h1 => .ret d h1
      | .exc c fs σ1 h1 => .exc c fs σ1 h1
      | .bad => .bad
def whileLoop (test : St → Hh → R Bool) (body : St → Hh → SR) : Nat → St → Hh → SR
  | 0, _, _ => .bad
  | m + 1, σ, h => SR.of (test σ h) σ fun t h1 => if t then (match body σ h1 with
      | .next σ1 h2 => whileLoop test body m σ1 h2
      | .cnt σ1 h2 => whileLoop test body m σ1 h2
      | .brk σ1 h2 => .next σ1 h2
      | .ret d h2 => .ret d h2
      | .exc c fs σ1 h2 => .exc c fs σ1 h2
      | .bad => .bad) else .next σ h1

def seqK (r : SR) (k : St → Hh → SR) : SR := match r with
  | .next σ h => k σ h
  | .brk σ h => .brk σ h
  | .cnt σ h => .cnt σ h
  | .ret d h => .ret d h
  | .exc c fs σ h => .exc c fs σ h
  | .bad => .bad
mutual
def exec : S → St → Hh → SR
  | .stuck, _, _ => .bad
  | .brk, σ, h => .brk σ h
  | .cnt, σ, h => .cnt σ h
  | .while_ t b, σ, h => whileLoop (evalT T cl t) (execs b) turns σ h
  | .expr e, σ, h => SR.of (evalE T cl e σ h) σ fun _ h1 => .next σ h1
  | .ret e, σ, h => SR.of (evalE T cl e σ h) σ fun d h1 => .ret d h1
  | .asg g e, σ, h => SR.of (evalE T cl e σ h) σ fun d h1 => SR.of (R.of (store T cl g d σ h1)) σ fun σ1 h2 => .next σ1 h2
  | .ifs t a b, σ, h => SR.of (evalT T cl t σ h) σ fun c h1 => if c then execs a σ h1 else execs b σ h1
  | .for_ g s b, σ, h => SR.of (evalSrc T cl s σ h) σ fun it h1 =>
      forLoop (fun d σ1 h2 => SR.of (R.of (store T cl g d σ1 h2)) σ1 fun σ2 h3 => execs b σ2 h3) it turns 0 σ h1
  | .pass, σ, h => .next σ h
  | .nrm, σ, h => .next σ h.norm
termination_by structural e => e
def execs : Ss → St → Hh → SR
  | .nil, σ, h => .next σ h
  | .cons s ss, σ, h => seqK (exec s σ h) (execs ss)
termination_by structural e => e
end
end

def start (ns : Nat) (ds : List D) : St := ds.map some ++ List.replicate (ns - ds.length) none
def runFn (T : Tab) (cl : Nat → List D → Hh → R D) (q : Fn) (ds : List D) (h : Hh) : R D :=
  if ds.length = q.np then (match execs T cl q.body (start q.ns ds) h with
    | .next _ h1 => .ok .non h1
    | .ret d h1 => .ok d h1
    | .exc c fs _ h1 => .exc c fs h1
    | .brk _ _ => .bad
    | .cnt _ _ => .bad
    | .bad => .bad) else .bad
def callFn (T : Tab) : Nat → Nat → List D → Hh → R D
  | 0, _, _, _ => .bad
  | n + 1, f, ds, h => match T.fns[f]? with
    | some q => runFn T (callFn T n) q ds h
    | none => .bad
end Pyi
set_option Elab.async false
set_option linter.all false
set_option maxRecDepth 100000
set_option maxHeartbeats 1000000
/-! The interpreter's values and heap against those of the hand layer. -/
namespace Pyi
open PySem L2

/-- where the own classes stand; the names of the fields -/
structure Ad where
  ca : Nat → Addr
  an : Nat → Str

section
variable (K : PySem.W.Frag) (Z : Ad) (n : Nat) (ρ : Nat → Addr) (H : Hp)
mutual
def RelD : D → V → Prop
  | .non, v => v = .non
  | .bl b, v => v = .bl b
  | .int i, v => v = .int i
  | .str x, v => v = .str x
  | .tup xs, v => ∃ a ys, v = .ref a ∧ SqT K H a ys ∧ RelDs xs ys
  | .ref i, v => i < n ∧ v = .ref (ρ i)
  | .cls c, v => v = .ref (Z.ca c)
def RelDs : List D → List V → Prop
  | [], ys => ys = []
  | d :: ds, ys => ∃ v vs, ys = v :: vs ∧ RelD d v ∧ RelDs ds vs
end
/-- fields: by the names, in order -/
def RelFs : Fs → List (Str × V) → Prop
  | [], gs => gs = []
  | (f, d) :: fs, gs => ∃ v r, gs = (Z.an f, v) :: r ∧ RelD K Z n ρ H d v ∧ RelFs fs r
/-- an exception's object as the layer has it: its dict, where there are fields -/
def RelE (a : Addr) (c : Nat) (fs : Fs) : Prop :=
  (fs = [] ∧ H a = some (exo a (Z.ca c) none)) ∨ ∃ dx gs, H a = some (exo a (Z.ca c) (some dx)) ∧ H dx = some (exd dx gs) ∧ RelFs K Z n ρ H fs gs.reverse
def RelO (a : Addr) : O → Prop
  | .lst xs => ∃ ys, H a = some (.lst ys) ∧ RelDs K Z n ρ H xs ys
  | .frz xs => ∃ ys, ((∃ o, H a = some (.frz o (.lst ys))) ∨ ∀ H', SqL K H' a ys) ∧ RelDs K Z n ρ H xs ys
  | .dic _ => False
  | .ins c fs => ∃ dx gs, H a = some (.ins (Z.ca c) dx gs) ∧ RelFs K Z n ρ H fs gs
  | .exo c fs => RelE K Z n ρ H a c fs
end

def O.isFrz : O → Bool
  | .frz _ => true
  | _ => false
/-- the heap is held by ρ -/
structure Good (K : PySem.W.Frag) (Z : Ad) (h : Hh) (ρ : Nat → Addr) (H : Hp) : Prop where
  dom : ∀ i, i < h.n → ∃ o, h.f i = some o
  out : ∀ i o, h.f i = some o → i < h.n
  inj : ∀ i j oi oj, h.f i = some oi → h.f j = some oj → oi.isFrz = false → oj.isFrz = false → ρ i = ρ j → i = j
  obj : ∀ i o, h.f i = some o → RelO K Z h.n ρ H (ρ i) o

/-- later: more objects, tuples as they were -/
structure Ext (n n' : Nat) (ρ ρ' : Nat → Addr) (H H' : Hp) : Prop where
  le : n ≤ n'
  eq : ∀ i, i < n → ρ' i = ρ i
  tup : ∀ a xs, H a = some (.tup xs) → H' a = some (.tup xs)
  frz : ∀ a o u, H a = some (.frz o u) → H' a = some (.frz o u)

section
variable {K : PySem.W.Frag} {Z : Ad} {n n' n2 : Nat} {ρ ρ' ρ2 : Nat → Addr} {H H' H2 : Hp}
theorem Ext.refl : Ext n n ρ ρ H H := ⟨Nat.le_refl _, fun _ _ => rfl, fun _ _ e => e, fun _ _ _ e => e⟩
theorem Ext.trans (a : Ext n n' ρ ρ' H H') (b : Ext n' n2 ρ' ρ2 H' H2) : Ext n n2 ρ ρ2 H H2 :=
  ⟨Nat.le_trans a.le b.le, fun i hi => (b.eq i (Nat.lt_of_lt_of_le hi a.le)).trans (a.eq i hi), fun x xs e => b.tup x xs (a.tup x xs e), fun x o u e => b.frz x o u (a.frz x o u e)⟩
theorem sqT_ext {a : Addr} {ys : List V} (x : Ext n n' ρ ρ' H H') (h : SqT K H a ys) : SqT K H' a ys := by
  rcases h with (h | ⟨o, h⟩) | h
  · exact .inl (.inl (x.tup _ _ h))
  · exact .inl (.inr ⟨o, x.frz _ _ _ h⟩)
  · exact .inr h
mutual
theorem RelD.ext (x : Ext n n' ρ ρ' H H') : ∀ {d : D} {v : V}, RelD K Z n ρ H d v → RelD K Z n' ρ' H' d v
  | .non, v, h => by unfold RelD at h ⊢; exact h
  | .bl b, v, h => by unfold RelD at h ⊢; exact h
  | .int i, v, h => by unfold RelD at h ⊢; exact h
  | .str s, v, h => by unfold RelD at h ⊢; exact h
  | .cls c, v, h => by unfold RelD at h ⊢; exact h
  | .ref i, v, h => by
    unfold RelD at h ⊢
    exact ⟨Nat.lt_of_lt_of_le h.1 x.le, by rw [x.eq i h.1]; exact h.2⟩
  | .tup xs, v, h => by
    unfold RelD at h ⊢
    obtain ⟨a, ys, e, s, r⟩ := h
    exact ⟨a, ys, e, sqT_ext x s, RelDs.ext x r⟩
theorem RelDs.ext (x : Ext n n' ρ ρ' H H') : ∀ {ds : List D} {vs : List V}, RelDs K Z n ρ H ds vs → RelDs K Z n' ρ' H' ds vs
  | [], vs, h => by unfold RelDs at h ⊢; exact h
  | d :: ds, vs, h => by
    unfold RelDs at h ⊢
    obtain ⟨v, r, e, h1, h2⟩ := h
    exact ⟨v, r, e, RelD.ext x h1, RelDs.ext x h2⟩
end
theorem RelFs.ext (x : Ext n n' ρ ρ' H H') : ∀ {fs : Fs} {gs : List (Str × V)}, RelFs K Z n ρ H fs gs → RelFs K Z n' ρ' H' fs gs
  | [], gs, h => h
  | (f, d) :: fs, gs, h => by
    obtain ⟨v, r, e, h1, h2⟩ := h
    exact ⟨v, r, e, h1.ext x, RelFs.ext x h2⟩

theorem relDs_nil {vs : List V} : RelDs K Z n ρ H [] vs ↔ vs = [] := by rw [RelDs]
theorem relDs_cons {d : D} {ds : List D} {vs : List V} : RelDs K Z n ρ H (d :: ds) vs ↔ ∃ v r, vs = v :: r ∧ RelD K Z n ρ H d v ∧ RelDs K Z n ρ H ds r := by rw [RelDs]
theorem RelDs.length : ∀ {ds : List D} {vs : List V}, RelDs K Z n ρ H ds vs → vs.length = ds.length
  | [], vs, h => by rw [relDs_nil.mp h]; rfl
  | d :: ds, vs, h => by
    obtain ⟨v, r, e, _, h2⟩ := relDs_cons.mp h
    rw [e, List.length_cons, List.length_cons, RelDs.length h2]
theorem RelDs.get : ∀ {ds : List D} {vs : List V} {i : Nat} {d : D}, RelDs K Z n ρ H ds vs → ds[i]? = some d → ∃ v, vs[i]? = some v ∧ RelD K Z n ρ H d v
  | [], vs, i, d, h, e => by simp at e
  | d0 :: ds, vs, i, d, h, e => by
    obtain ⟨v, r, e1, h1, h2⟩ := relDs_cons.mp h
    subst e1
    cases i with
    | zero =>
      simp at e
      subst e
      exact ⟨v, rfl, h1⟩
    | succ i =>
      obtain ⟨u, e2, h3⟩ := RelDs.get (i := i) h2 (by simpa using e)
      exact ⟨u, by simpa using e2, h3⟩
theorem RelDs.append : ∀ {ds es : List D} {vs us : List V}, RelDs K Z n ρ H ds vs → RelDs K Z n ρ H es us → RelDs K Z n ρ H (ds ++ es) (vs ++ us)
  | [], es, vs, us, h, g => by rw [relDs_nil.mp h]; exact g
  | d :: ds, es, vs, us, h, g => by
    obtain ⟨v, r, e, h1, h2⟩ := relDs_cons.mp h
    rw [e]
    exact relDs_cons.mpr ⟨v, r ++ us, rfl, h1, RelDs.append h2 g⟩
theorem RelDs.take : ∀ {ds : List D} {vs : List V} (k : Nat), RelDs K Z n ρ H ds vs → RelDs K Z n ρ H (ds.take k) (vs.take k)
  | _, _, 0, _ => relDs_nil.mpr rfl
  | [], vs, k + 1, h => by rw [relDs_nil.mp h]; exact relDs_nil.mpr rfl
  | d :: ds, vs, k + 1, h => by
    obtain ⟨v, r, e, h1, h2⟩ := relDs_cons.mp h
    rw [e]
    exact relDs_cons.mpr ⟨v, r.take k, rfl, h1, RelDs.take k h2⟩
theorem RelDs.drop : ∀ {ds : List D} {vs : List V} (k : Nat), RelDs K Z n ρ H ds vs → RelDs K Z n ρ H (ds.drop k) (vs.drop k)
  | _, _, 0, h => h
  | [], vs, k + 1, h => by rw [relDs_nil.mp h]; exact relDs_nil.mpr rfl
  | d :: ds, vs, k + 1, h => by
    obtain ⟨v, r, e, h1, h2⟩ := relDs_cons.mp h
    rw [e]
    exact RelDs.drop k h2
theorem RelDs.set {d : D} {v : V} (hd : RelD K Z n ρ H d v) : ∀ {ds : List D} {vs : List V} (k : Nat), RelDs K Z n ρ H ds vs → RelDs K Z n ρ H (ds.set k d) (vs.set k v)
  | [], vs, k, h => by rw [relDs_nil.mp h]; exact relDs_nil.mpr rfl
  | d0 :: ds, vs, k, h => by
    obtain ⟨u, r, e, h1, h2⟩ := relDs_cons.mp h
    rw [e]
    cases k with
    | zero => exact relDs_cons.mpr ⟨v, r, rfl, hd, h2⟩
    | succ k => exact relDs_cons.mpr ⟨u, r.set k v, rfl, h1, RelDs.set hd k h2⟩
theorem RelDs.replicate {ds : List D} {vs : List V} (h : RelDs K Z n ρ H ds vs) : ∀ k : Nat, RelDs K Z n ρ H (List.replicate k ds).flatten (List.replicate k vs).flatten
  | 0 => relDs_nil.mpr rfl
  | k + 1 => by
    rw [List.replicate_succ, List.replicate_succ, List.flatten_cons, List.flatten_cons]
    exact h.append (RelDs.replicate h k)

/-- an object stands as it stood -/
theorem RelO.ext {a : Addr} {o : O} (x : Ext n n' ρ ρ' H H') (h : RelO K Z n ρ H a o) (ha : o.isFrz = false → ∀ u, H a = some u → H' a = some u) (hx : ∀ dx gs, H dx = some (exd dx gs) → H' dx = some (exd dx gs)) : RelO K Z n' ρ' H' a o := by
  cases o with
  | lst xs =>
    obtain ⟨ys, e, r⟩ := h
    exact ⟨ys, ha rfl _ e, r.ext x⟩
  | frz xs =>
    obtain ⟨ys, e | e, r⟩ := h
    · obtain ⟨o, e⟩ := e
      exact ⟨ys, .inl ⟨o, x.frz _ _ _ e⟩, r.ext x⟩
    · exact ⟨ys, .inr e, r.ext x⟩
  | dic kvs => exact h
  | ins c fs =>
    obtain ⟨dx, gs, e, r⟩ := h
    exact ⟨dx, gs, ha rfl _ e, r.ext x⟩
  | exo c fs =>
    rcases h with ⟨e0, e⟩ | ⟨dx, gs, e, e2, r⟩
    · exact .inl ⟨e0, ha rfl _ e⟩
    · exact .inr ⟨dx, gs, ha rfl _ e, hx _ _ e2, r.ext x⟩
/-- what is ours and may change is tracked -/
theorem RelO.tracked {a : Addr} {o : O} (h : RelO K Z n ρ H a o) (hf : o.isFrz = false) : ∃ u, H a = some u := by
  cases o with
  | lst xs => obtain ⟨ys, e, _⟩ := h; exact ⟨_, e⟩
  | frz xs => cases hf
  | dic kvs => exact h.elim
  | ins c fs => obtain ⟨dx, gs, e, _⟩ := h; exact ⟨_, e⟩
  | exo c fs =>
    rcases h with ⟨_, e⟩ | ⟨_, _, e, _⟩
    · exact ⟨_, e⟩
    · exact ⟨_, e⟩
end

/-- a further address -/
def bump (ρ : Nat → Addr) (n : Nat) (p : Addr) : Nat → Addr := fun i => if i = n then p else ρ i
theorem bump_lt {ρ : Nat → Addr} {n i : Nat} {p : Addr} (h : i < n) : bump ρ n p i = ρ i := if_neg (Nat.ne_of_lt h)
theorem bump_self {ρ : Nat → Addr} {n : Nat} {p : Addr} : bump ρ n p n = p := if_pos rfl

section
variable {K : PySem.W.Frag} {Z : Ad} {h : Hh} {ρ : Nat → Addr} {H : Hp}
theorem Good.norm (g : Good K Z h ρ H) : Good K Z h.norm ρ H := ⟨fun i hi => g.dom i hi, fun i o e => g.out i o e, fun i j oi oj a b c d e => g.inj i j oi oj a b c d e, fun i o e => g.obj i o e⟩
/-- a new object: nothing else is touched (H' may hold helpers at addresses that were free) -/
theorem Good.new {H' : Hp} {p : Addr} {o : O} (g : Good K Z h ρ H) (hp : H p = none) (hk : ∀ a u, H a = some u → H' a = some u)
    (ho : Ext h.n (h.n + 1) ρ (bump ρ h.n p) H H' → RelO K Z (h.n + 1) (bump ρ h.n p) H' p o) : Ext h.n (h.new o).n ρ (bump ρ h.n p) H H' ∧ Good K Z (h.new o) (bump ρ h.n p) H' := by
  have x : Ext h.n (h.n + 1) ρ (bump ρ h.n p) H H' := ⟨Nat.le_succ _, fun i hi => bump_lt hi, fun a xs e => hk _ _ e, fun a o u e => hk _ _ e⟩
  have ne : ∀ i oi, h.f i = some oi → oi.isFrz = false → ρ i ≠ p := fun i oi e q z => by
    obtain ⟨u, hu⟩ := (g.obj i oi e).tracked q
    rw [z, hp] at hu
    cases hu
  have old : ∀ i u, i ≠ h.n → (h.new o).f i = some u → h.f i = some u := fun i u q e => by
    rw [Hh.f_new, if_neg q] at e
    exact e
  have new : ∀ i u, i = h.n → (h.new o).f i = some u → u = o := fun i u q e => by
    rw [Hh.f_new, if_pos q] at e
    cases e
    rfl
  refine ⟨x, ⟨fun i hi => ?_, fun i u e => ?_, fun i j oi oj ei ej fi fj e => ?_, fun i u e => ?_⟩⟩
  · rw [Hh.f_new]
    by_cases q : i = h.n
    · exact ⟨o, if_pos q⟩
    · have hi : i < h.n + 1 := hi
      obtain ⟨o', e⟩ := g.dom i (by omega)
      exact ⟨o', by rw [if_neg q]; exact e⟩
  · show i < h.n + 1
    by_cases q : i = h.n
    · omega
    · exact Nat.lt_succ_of_lt (g.out i u (old i u q e))
  · by_cases qi : i = h.n
    · by_cases qj : j = h.n
      · omega
      · have hj := old j oj qj ej
        rw [qi, bump_self, bump_lt (g.out j oj hj)] at e
        exact absurd e.symm (ne j oj hj fj)
    · have hi := old i oi qi ei
      by_cases qj : j = h.n
      · rw [qj, bump_self, bump_lt (g.out i oi hi)] at e
        exact absurd e (ne i oi hi fi)
      · have hj := old j oj qj ej
        rw [bump_lt (g.out i oi hi), bump_lt (g.out j oj hj)] at e
        exact g.inj i j oi oj hi hj fi fj e
  · by_cases q : i = h.n
    · rw [new i u q e, q, bump_self]
      exact ho x
    · have hi := old i u q e
      rw [bump_lt (g.out i u hi)]
      exact (g.obj i u hi).ext x (fun _ => hk _) (fun dx gs q => hk _ _ q)
/-- an object of ours changes, at a; uo: what stood there, no tuple, no dict of an exception -/
theorem Good.put {a : Nat} {o o' : O} {u u' : HO} (g : Good K Z h ρ H) (ha : h.f a = some o) (hf : o.isFrz = false) (hf' : o'.isFrz = false) (hu : H (ρ a) = some u) (ht : ∀ xs, u ≠ .tup xs) (hz : ∀ q v, u ≠ .frz q v) (hx : ∀ gs, u ≠ exd (ρ a) gs)
    (ho : Ext h.n h.n ρ ρ H (upd H (ρ a) u') → RelO K Z h.n ρ (upd H (ρ a) u') (ρ a) o') : Ext h.n (h.put a o').n ρ ρ H (upd H (ρ a) u') ∧ Good K Z (h.put a o') ρ (upd H (ρ a) u') := by
  have nt : ∀ b v, H b = some v → v ≠ u → b ≠ ρ a := fun b v e d z => by
    rw [z, hu] at e
    exact d (Option.some.inj e).symm
  have x : Ext h.n h.n ρ ρ H (upd H (ρ a) u') := ⟨Nat.le_refl _, fun _ _ => rfl, fun b xs e => by rw [upd_ne (nt b _ e (ht xs).symm)]; exact e, fun b q v e => by rw [upd_ne (nt b _ e (hz q v).symm)]; exact e⟩
  have old : ∀ i w, i ≠ a → (h.put a o').f i = some w → h.f i = some w := fun i w q e => by
    rw [Hh.f_put, if_neg q] at e
    exact e
  have new : ∀ i w, i = a → (h.put a o').f i = some w → w = o' := fun i w q e => by
    rw [Hh.f_put, if_pos q] at e
    cases e
    rfl
  refine ⟨x, ⟨fun i hi => ?_, fun i w e => ?_, fun i j oi oj ei ej fi fj e => ?_, fun i w e => ?_⟩⟩
  · rw [Hh.f_put]
    by_cases q : i = a
    · exact ⟨o', if_pos q⟩
    · obtain ⟨w, e⟩ := g.dom i hi
      exact ⟨w, by rw [if_neg q]; exact e⟩
  · show i < h.n
    by_cases q : i = a
    · rw [q]
      exact g.out a o ha
    · exact g.out i w (old i w q e)
  · by_cases qi : i = a
    · by_cases qj : j = a
      · omega
      · subst qi
        exact g.inj i j o oj ha (old j oj qj ej) hf fj e
    · by_cases qj : j = a
      · subst qj
        exact g.inj i j oi o (old i oi qi ei) ha fi hf e
      · exact g.inj i j oi oj (old i oi qi ei) (old j oj qj ej) fi fj e
  · by_cases q : i = a
    · rw [new i w q e, q]
      exact ho x
    · have hi := old i w q e
      refine (g.obj i w hi).ext x (fun fw v hv => ?_) (fun dx gs e2 => ?_)
      · rw [upd_ne (fun z => q (g.inj i a w o hi ha fw hf z))]
        exact hv
      · by_cases z : dx = ρ a
        · rw [z, hu] at e2
          exact absurd (Option.some.inj e2) (hx gs)
        · rw [upd_ne z]
          exact e2
end
end Pyi
set_option Elab.async false
set_option linter.all false
set_option maxRecDepth 100000
set_option maxHeartbeats 1000000
/-! What a run of the interpreter promises, as a reading of the hand layer. -/
namespace Pyi
open PySem L2

abbrev Rel (α β : Type) := Nat → (Nat → Addr) → Hp → α → β → Prop
abbrev relB : Rel Bool Bool := fun _ _ _ a b => b = a

/-- an exception in the air: its class, its own dict -/
def RelX (K : PySem.W.Frag) (Z : Ad) (n : Nat) (ρ : Nat → Addr) (H : Hp) (c : Nat) (fs : Fs) (cls : Value) (d : Option Addr) : Prop :=
  cls = .ref (Z.ca c) ∧ ((fs = [] ∧ d = none) ∨ ∃ dd gs, d = some dd ∧ H dd = some (.xd gs) ∧ RelFs K Z n ρ H fs gs.reverse)

section
variable (K : PySem.W.Frag) (Z : Ad)
def Sat {α β : Type} (rel : Rel α β) (n : Nat) (ρ : Nat → Addr) (H : Hp) (r : R α) (Q : β → Hp → Prop) (W : XK) : Prop := match r with
  | .ok a h => ∀ ρ' H' b, Ext n h.n ρ ρ' H H' → Good K Z h ρ' H' → rel h.n ρ' H' a b → Q b H'
  | .exc c fs h => ∀ ρ' H' cls d, Ext n h.n ρ ρ' H H' → Good K Z h ρ' H' → RelX K Z h.n ρ' H' c fs cls d → W cls d H'
  | .bad => False
def PSat (n : Nat) (ρ : Nat → Addr) (H : Hp) (r : PO) (Q : VK) : Prop := ∃ d h, r = some (d, h) ∧ ∀ ρ' H' b, Ext n h.n ρ ρ' H H' → Good K Z h ρ' H' → RelD K Z h.n ρ' H' d b → Q b H'
/-- the slots -/
def RelS (n : Nat) (ρ : Nat → Addr) (H : Hp) (σI : St) (σ : L2.St) : Prop := σI.length = σ.length ∧ ∀ (i : Nat) d, σI[i]? = some (some d) → ∃ v, σ[i]? = some (some v) ∧ RelD K Z n ρ H d v
def tG {α β : Type} (rel : Rel α β) (W : WX) (e : St → Hh → R α) : L2.St → Hp → (β → Hp → Prop) → Prop := fun σ H Q =>
  ∃ ρ σI h, Good K Z h ρ H ∧ RelS K Z h.n ρ H σI σ ∧ Sat K Z rel h.n ρ H (e σI h) Q (fun c d H' => W c d σ H')
abbrev tI (W : WX) (e : St → Hh → R D) : TE := tG K Z (RelD K Z) W e
abbrev tIs (W : WX) (e : St → Hh → R (List D)) : TA := tG K Z (RelDs K Z) W e
abbrev tIb (W : WX) (e : St → Hh → R Bool) : TT := tG K Z relB W e
/-- between two steps -/
def Mid {α β γ δ : Type} (rel1 : Rel α β) (rel2 : Rel γ δ) (W : WX) (k : St → α → Hh → R γ) (σ : L2.St) (Q : δ → Hp → Prop) : β → Hp → Prop := fun b H1 =>
  ∃ ρ σI h a, Good K Z h ρ H1 ∧ RelS K Z h.n ρ H1 σI σ ∧ rel1 h.n ρ H1 a b ∧ Sat K Z rel2 h.n ρ H1 (k σI a h) Q (fun c d H' => W c d σ H')
end

section
variable {K : PySem.W.Frag} {Z : Ad} {α β γ δ : Type} {rel1 : Rel α β} {rel2 : Rel γ δ} {n n' : Nat} {ρ ρ' : Nat → Addr} {H H' : Hp} {W : WX} {σI : St} {σ : L2.St}
theorem RelS.ext (x : Ext n n' ρ ρ' H H') (h : RelS K Z n ρ H σI σ) : RelS K Z n' ρ' H' σI σ := ⟨h.1, fun i d e => by
  obtain ⟨v, e1, r⟩ := h.2 i d e
  exact ⟨v, e1, r.ext x⟩⟩
theorem Sat.ext {r : R α} {Q : β → Hp → Prop} {W : XK} (x : Ext n n' ρ ρ' H H') (h : Sat K Z rel1 n ρ H r Q W) : Sat K Z rel1 n' ρ' H' r Q W := by
  cases r with
  | ok a h' => exact fun ρ2 H2 b y g q => h ρ2 H2 b (x.trans y) g q
  | exc c fs h' => exact fun ρ2 H2 cls d y g q => h ρ2 H2 cls d (x.trans y) g q
  | bad => exact h
theorem Sat.mono {r : R α} {Q Q' : β → Hp → Prop} {W W' : XK} (h : Sat K Z rel1 n ρ H r Q W) (hq : ∀ b H', Q b H' → Q' b H') (hw : ∀ c d H', W c d H' → W' c d H') : Sat K Z rel1 n ρ H r Q' W' := by
  cases r with
  | ok a h' => exact fun ρ2 H2 b y g q => hq _ _ (h ρ2 H2 b y g q)
  | exc c fs h' => exact fun ρ2 H2 cls d y g q => hw _ _ _ (h ρ2 H2 cls d y g q)
  | bad => exact h
theorem Sat.of_po {r : PO} {Q : VK} {W : XK} (h : Sat K Z (RelD K Z) n ρ H (R.of r) Q W) : PSat K Z n ρ H r Q := by
  cases r with
  | none => exact h.elim
  | some p => exact ⟨p.1, p.2, rfl, h⟩
/-- a step, then the rest -/
theorem Sat.bind {h : Hh} {r : R α} {k : α → Hh → R γ} {Q : δ → Hp → Prop} {W : XK} (hs : Sat K Z rel2 n ρ H (r.bind k) Q W) :
    Sat K Z rel1 n ρ H r (fun b H1 => ∃ ρ1 h1 a, Ext n h1.n ρ ρ1 H H1 ∧ Good K Z h1 ρ1 H1 ∧ rel1 h1.n ρ1 H1 a b ∧ Sat K Z rel2 h1.n ρ1 H1 (k a h1) Q W) W := by
  cases r with
  | ok a h' => exact fun ρ2 H2 b y g q => ⟨ρ2, h', a, y, g, q, Sat.ext (rel1 := rel2) y hs⟩
  | exc c fs h' => exact hs
  | bad => exact hs
theorem tG.bind {e : St → Hh → R α} {k : St → α → Hh → R γ} {Q : δ → Hp → Prop} (h : tG K Z rel2 W (fun σ h => (e σ h).bind (k σ)) σ H Q) : tG K Z rel1 W e σ H (Mid K Z rel1 rel2 W k σ Q) := by
  obtain ⟨ρ, σI, h0, g, rs, s⟩ := h
  refine ⟨ρ, σI, h0, g, rs, (Sat.bind (rel1 := rel1) (h := h0) s).mono (fun b H1 q => ?_) (fun _ _ _ q => q)⟩
  obtain ⟨ρ1, h1, a, x, g1, r1, s1⟩ := q
  exact ⟨ρ1, σI, h1, a, g1, rs.ext x, r1, s1⟩
/-- in the middle, the next step -/
theorem Mid.bind {α' β' : Type} {rel0 : Rel α' β'} {e : St → α' → Hh → R α} {k : St → α' → α → Hh → R γ} {Q : δ → Hp → Prop} {b : β'} (hx : ∀ n n' ρ ρ' H H' a b, Ext n n' ρ ρ' H H' → rel0 n ρ H a b → rel0 n' ρ' H' a b)
    (h : Mid K Z rel0 rel2 W (fun σI a h => (e σI a h).bind (k σI a)) σ Q b H) :
    ∃ ρ σI h a, Good K Z h ρ H ∧ RelS K Z h.n ρ H σI σ ∧ rel0 h.n ρ H a b ∧ Sat K Z rel1 h.n ρ H (e σI a h) (fun b1 H1 => ∃ ρ1 h1 a1, Good K Z h1 ρ1 H1 ∧ RelS K Z h1.n ρ1 H1 σI σ ∧ rel0 h1.n ρ1 H1 a b ∧ rel1 h1.n ρ1 H1 a1 b1 ∧ Sat K Z rel2 h1.n ρ1 H1 (k σI a a1 h1) Q (fun c d H' => W c d σ H')) (fun c d H' => W c d σ H') := by
  obtain ⟨ρ, σI, h0, a, g, rs, r0, s⟩ := h
  refine ⟨ρ, σI, h0, a, g, rs, r0, (Sat.bind (rel1 := rel1) (h := h0) s).mono (fun b H1 q => ?_) (fun _ _ _ q => q)⟩
  obtain ⟨ρ1, h1, a1, x, g1, r1, s1⟩ := q
  exact ⟨ρ1, h1, a1, g1, rs.ext x, hx _ _ _ _ _ _ _ _ x r0, r1, s1⟩
end

theorem pe_mono {X : Cx} {e : Expr} {t t' : TE} (h : PE X e t) (i : ∀ σ H Q, t' σ H Q → t σ H Q) : PE X e t' := ⟨fun pins s σ H Q I q => h.run pins s σ H Q I (i σ H Q q)⟩
theorem pt_mono {X : Cx} {e : Expr} {t t' : TT} (h : PT X e t) (i : ∀ σ H Q, t' σ H Q → t σ H Q) : PT X e t' := ⟨fun pins s σ H Q I q => h.run pins s σ H Q I (i σ H Q q)⟩
theorem pw_mono {X : Cx} {e : Expr} {t t' : TT} (h : PW X e t) (i : ∀ σ H Q, t' σ H Q → t σ H Q) : PW X e t' := ⟨fun wh pins s σ H Q I q => h.run wh pins s σ H Q I (i σ H Q q)⟩
theorem pa_mono {X : Cx} {e : List Expr} {t t' : TA} (h : PA X e t) (i : ∀ σ H Q, t' σ H Q → t σ H Q) : PA X e t' := ⟨fun p pins s σ H Q I q => h.run p pins s σ H Q I (i σ H Q q)⟩
theorem ps_mono {X : Cx} {e : Stmt} {t t' : TS} (h : PS X e t) (i : ∀ D σ H, t' D σ H → t D σ H) : PS X e t' := ⟨fun pins s σ H D I q => h.run pins s σ H D I (i D σ H q)⟩
theorem pss_mono {X : Cx} {e : List Stmt} {t t' : TS} (h : PSs X e t) (i : ∀ D σ H, t' D σ H → t D σ H) : PSs X e t' := ⟨fun pins s σ H D I q => h.run pins s σ H D I (i D σ H q)⟩

section
variable {K : PySem.W.Frag} {Z : Ad} {T : Tab} {cl : Nat → List D → Hh → R D} {W : WX} {σ : L2.St} {H : Hp}
/-- arguments, from the left -/
theorem tIs_nil {Q : List V → Hp → Prop} (h : tIs K Z W (evalEs T cl .nil) σ H Q) : tNil σ H Q := by
  obtain ⟨ρ, σI, h0, g, rs, s⟩ := h
  exact s ρ H [] Ext.refl g (relDs_nil.mpr rfl)
theorem tIs_cons {e : E} {es : Es} {Q : List V → Hp → Prop} (h : tIs K Z W (evalEs T cl (.cons e es)) σ H Q) : tCons (tI K Z W (evalE T cl e)) (tIs K Z W (evalEs T cl es)) σ H Q := by
  have h1 := tG.bind (rel1 := RelD K Z) (e := evalE T cl e) (k := fun σ d h1 => (evalEs T cl es σ h1).bind fun ds h2 => .ok (d :: ds) h2) h
  obtain ⟨ρ, σI, h0, g, rs, s⟩ := h1
  refine ⟨ρ, σI, h0, g, rs, s.mono (fun v H1 q => ?_) fun _ _ _ q => q⟩
  obtain ⟨ρ1, σ1, g1, d, G1, rs1, rd, s1⟩ := Mid.bind (rel0 := RelD K Z) (rel1 := RelDs K Z) (e := fun σ _ h1 => evalEs T cl es σ h1) (k := fun _ d ds h2 => .ok (d :: ds) h2) (fun _ _ _ _ _ _ _ _ x r => RelD.ext x r) q
  refine ⟨ρ1, σ1, g1, G1, rs1, s1.mono (fun vs H2 q => ?_) fun _ _ _ q => q⟩
  obtain ⟨ρ2, h2, ds, G2, rs2, rd2, rds, s2⟩ := q
  exact s2 ρ2 H2 (v :: vs) Ext.refl G2 (relDs_cons.mpr ⟨v, vs, rfl, rd2, rds⟩)

/-- a primitive on one, two, three values; on a list of them -/
def rPs (K : PySem.W.Frag) (Z : Ad) (f : List D → Hh → PO) : List V → Hp → VK → Prop := fun xs H Q => ∃ ρ h ds, Good K Z h ρ H ∧ RelDs K Z h.n ρ H ds xs ∧ PSat K Z h.n ρ H (f ds h) Q
def rP1 (K : PySem.W.Frag) (Z : Ad) (f : D → Hh → PO) : V → Hp → VK → Prop := fun x H Q => ∃ ρ h d, Good K Z h ρ H ∧ RelD K Z h.n ρ H d x ∧ PSat K Z h.n ρ H (f d h) Q
def rP2 (K : PySem.W.Frag) (Z : Ad) (f : D → D → Hh → PO) : R2 := fun x y H Q => ∃ ρ h d e, Good K Z h ρ H ∧ RelD K Z h.n ρ H d x ∧ RelD K Z h.n ρ H e y ∧ PSat K Z h.n ρ H (f d e h) Q
theorem tP {es : Es} {f : List D → Hh → PO} {Q : VK} (h : tI K Z W (fun σ h => (evalEs T cl es σ h).bind fun ds h1 => R.of (f ds h1)) σ H Q) : tCB (rPs K Z f) (tIs K Z W (evalEs T cl es)) σ H Q := by
  have h1 := tG.bind (rel1 := RelDs K Z) (e := evalEs T cl es) (k := fun _ ds h1 => R.of (f ds h1)) h
  obtain ⟨ρ, σI, h0, g, rs, s⟩ := h1
  refine ⟨ρ, σI, h0, g, rs, s.mono (fun v H1 q => ?_) fun _ _ _ q => q⟩
  obtain ⟨ρ1, σ1, g1, ds, G1, _, rd, s1⟩ := q
  exact ⟨ρ1, g1, ds, G1, rd, s1.of_po⟩
theorem tP1 {a : E} {f : List D → Hh → PO} {Q : VK} (h : tI K Z W (fun σ h => (evalEs T cl (.cons a .nil) σ h).bind fun ds h1 => R.of (f ds h1)) σ H Q) : tUn (rP1 K Z fun d h => f [d] h) (tI K Z W (evalE T cl a)) σ H Q := by
  have h2 := tIs_cons (tP h)
  obtain ⟨ρ, σI, h0, g, rs, s⟩ := h2
  refine ⟨ρ, σI, h0, g, rs, s.mono (fun v H1 q => ?_) fun _ _ _ q => q⟩
  obtain ⟨ρ1, h1, ds, G1, rd, p⟩ := tIs_nil q
  obtain ⟨d, r1, e1⟩ : ∃ d r, ds = d :: r := by
    cases ds with
    | nil => have z := relDs_nil.mp rd; cases z
    | cons d r => exact ⟨d, r, rfl⟩
  subst e1
  obtain ⟨v', r', e, rd1, rd2⟩ := relDs_cons.mp rd
  cases e
  cases r1 with
  | nil => exact ⟨ρ1, h1, d, G1, rd1, p⟩
  | cons x y =>
    obtain ⟨_, _, z, _⟩ := relDs_cons.mp rd2
    cases z
theorem tP2 {a b : E} {f : List D → Hh → PO} {Q : VK} (h : tI K Z W (fun σ h => (evalEs T cl (.cons a (.cons b .nil)) σ h).bind fun ds h1 => R.of (f ds h1)) σ H Q) :
    tOp (rP2 K Z fun d e h => f [d, e] h) (tI K Z W (evalE T cl a)) (tI K Z W (evalE T cl b)) σ H Q := by
  have h2 := tIs_cons (tP h)
  obtain ⟨ρ, σI, h0, g, rs, s⟩ := h2
  refine ⟨ρ, σI, h0, g, rs, s.mono (fun v H1 q => ?_) fun _ _ _ q => q⟩
  have h3 := tIs_cons q
  obtain ⟨ρ1, σ1, h1, g1, rs1, s1⟩ := h3
  refine ⟨ρ1, σ1, h1, g1, rs1, s1.mono (fun v2 H2 q2 => ?_) fun _ _ _ q => q⟩
  obtain ⟨ρ2, h2, ds, G2, rd, p⟩ := tIs_nil q2
  match ds, rd, p with
  | [], rd, p =>
    have z := relDs_nil.mp rd
    cases z
  | [d], rd, p =>
    obtain ⟨_, _, e, _, r2⟩ := relDs_cons.mp rd
    cases e
    have z := relDs_nil.mp r2
    cases z
  | [d, e], rd, p =>
    obtain ⟨_, _, e1, rd1, r2⟩ := relDs_cons.mp rd
    cases e1
    obtain ⟨_, _, e2, rd2, r3⟩ := relDs_cons.mp r2
    cases e2
    exact ⟨ρ2, h2, d, e, G2, rd1, rd2, p⟩
  | d :: e :: f' :: ds, rd, p =>
    obtain ⟨_, _, e1, _, r2⟩ := relDs_cons.mp rd
    cases e1
    obtain ⟨_, _, e2, _, r3⟩ := relDs_cons.mp r2
    cases e2
    obtain ⟨_, _, e3, _⟩ := relDs_cons.mp r3
    cases e3
end
end Pyi
set_option Elab.async false
set_option linter.all false
namespace Pyi
open PySem L2
theorem strRep_fold (z : Str) : ∀ (k : Nat) (acc : Array Nat), (List.replicate k z.cps).foldl (· ++ ·) acc = acc ++ (strRep z k).cps
  | 0, acc => by simp [strRep]
  | k + 1, acc => by
    rw [List.replicate_succ, List.foldl_cons, strRep_fold z k]
    simp only [strRep, List.replicate_succ, Array.append_assoc, List.flatten_cons]
    congr 1
    apply Array.ext'
    simp
theorem strRep_len (z : Str) (k : Nat) : (strRep z k).length = z.length * k := by
  simp [strRep, Str.length, Nat.mul_comm]
/-- text * count -/
theorem op_strRep {X : Cx} : OpR X (binaryOp .Mult) (fun x y H Q => ∃ (z : Str) (k : Int), x = .str z ∧ y = .int k ∧ -(2 ^ 63) ≤ k ∧ k < 2 ^ 63 ∧ z.length * k.toNat ≤ sizeLine ∧ Q (.str (strRep z k.toNat)) H) := by
  intro pins s σ H x y v u Q I rx ry ⟨z, k, ex, ey, h1, h2, h3, q⟩
  subst ex ey
  obtain ⟨t1, rfl⟩ := rx
  obtain ⟨t2, rfl⟩ := ry
  rw [sizeLine_eq] at h3
  refine PySem.P.mul_str (by rw [decide_eq_false (by omega), decide_eq_false (by omega)]; rfl) (fun a b => ?_) (fun a b => ?_) ?_
  · obtain ⟨n, rfl⟩ : ∃ n : Nat, k = n := ⟨k.toNat, by omega⟩
    have h4 : z.length * n ≤ 16777216 := h3
    have : (z.length : Int) ≤ (2 ^ 63 - 1) / (n : Int) := by
      rw [Int.le_ediv_iff_mul_le (by omega)]
      have : ((z.length * n : Nat) : Int) ≤ ((16777216 : Nat) : Int) := Int.ofNat_le.mpr h4
      rw [Int.natCast_mul] at this
      omega
    omega
  · unfold Builtin.Str.tooLong
    rw [decide_eq_false]
    rw [sizeLine_eq]
    omega
  · split
    · rename_i hk
      have : k.toNat = 0 := by omega
      rw [this] at q
      refine ⟨by decide, .str Str.empty, H, I.tok _, ⟨_, rfl⟩, ?_⟩
      exact q
    · split
      · rename_i hk ho
        refine ⟨.str z, H, I, ⟨_, rfl⟩, ?_⟩
        simp only [Bool.or_eq_true, beq_iff_eq] at ho
        have e : strRep z k.toNat = z := by
          rcases ho with ho | ho
          · subst ho
            simp [strRep]
          · have hz : z.cps = #[] := by
              have : z.cps.size = 0 := ho
              exact Array.eq_empty_of_size_eq_zero this
            obtain ⟨c⟩ := z
            simp at hz
            subst hz
            simp [strRep]
        rw [e] at q
        exact q
      · have e : (⟨(List.replicate k.toNat z.cps).foldl (· ++ ·) #[]⟩ : Str) = strRep z k.toNat := by
          rw [strRep_fold]
          simp
        rw [e]
        refine ⟨by rw [strRep_len, sizeLine_eq]; exact h3, .str _, H, I.tok _, ⟨_, rfl⟩, q⟩
end Pyi
set_option Elab.async false
set_option linter.all false
set_option maxRecDepth 100000
set_option maxHeartbeats 1000000
/-! The primitives, by the hand layer's rules. -/
namespace Pyi
open PySem L2

section
variable {K : PySem.W.Frag} {Z : Ad} {h : Hh} {ρ : Nat → Addr} {H : Hp} {n : Nat}
theorem relD_int {i : Int} {v : V} : RelD K Z n ρ H (.int i) v ↔ v = .int i := by rw [RelD]
theorem relD_bl {b : Bool} {v : V} : RelD K Z n ρ H (.bl b) v ↔ v = .bl b := by rw [RelD]
theorem relD_str {x : Str} {v : V} : RelD K Z n ρ H (.str x) v ↔ v = .str x := by rw [RelD]
theorem relD_non {v : V} : RelD K Z n ρ H .non v ↔ v = .non := by rw [RelD]
theorem relD_ref {a : Nat} {v : V} : RelD K Z n ρ H (.ref a) v ↔ a < n ∧ v = .ref (ρ a) := by rw [RelD]
theorem relD_tup {xs : List D} {v : V} : RelD K Z n ρ H (.tup xs) v ↔ ∃ a ys, v = .ref a ∧ SqT K H a ys ∧ RelDs K Z n ρ H xs ys := by rw [RelD]
theorem relD_cls {c : Nat} {v : V} : RelD K Z n ρ H (.cls c) v ↔ v = .ref (Z.ca c) := by rw [RelD]

theorem keep_upd {p : Addr} {o : HO} (hp : H p = none) : ∀ a u, H a = some u → upd H p o a = some u := fun a u e => by rw [upd_ne (ne_of_none e hp)]; exact e
/-- a new list -/
theorem Good.newLst (g : Good K Z h ρ H) {p : Addr} (hp : H p = none) {xs : List D} {ys : List V} (r : RelDs K Z h.n ρ H xs ys) :
    Ext h.n (h.new (.lst xs)).n ρ (bump ρ h.n p) H (upd H p (.lst ys)) ∧ Good K Z (h.new (.lst xs)) (bump ρ h.n p) (upd H p (.lst ys)) ∧ RelD K Z (h.new (.lst xs)).n (bump ρ h.n p) (upd H p (.lst ys)) (.ref h.n) (.ref p) := by
  obtain ⟨x, g'⟩ := g.new (o := .lst xs) hp (keep_upd hp) (fun x => ⟨ys, upd_same, r.ext x⟩)
  exact ⟨x, g', relD_ref.mpr ⟨Nat.lt_succ_self _, by rw [bump_self]⟩⟩
/-- a new tuple: no object of ours -/
theorem Good.newTup (g : Good K Z h ρ H) {p : Addr} (hp : H p = none) {xs : List D} {ys : List V} (r : RelDs K Z h.n ρ H xs ys) :
    Ext h.n h.n ρ ρ H (upd H p (.tup ys)) ∧ Good K Z h ρ (upd H p (.tup ys)) ∧ RelD K Z h.n ρ (upd H p (.tup ys)) (.tup xs) (.ref p) := by
  have x : Ext h.n h.n ρ ρ H (upd H p (.tup ys)) := ⟨Nat.le_refl _, fun _ _ => rfl, fun a xs e => keep_upd hp _ _ e, fun a o u e => keep_upd hp _ _ e⟩
  refine ⟨x, ⟨g.dom, g.out, g.inj, fun i o e => (g.obj i o e).ext x (fun _ => keep_upd hp _) (fun dx gs q => keep_upd hp _ _ q)⟩, relD_tup.mpr ⟨p, ys, rfl, SqT.of upd_same, r.ext x⟩⟩
/-- a list of ours, changed -/
theorem Good.putLst (g : Good K Z h ρ H) {a : Nat} {xs xs' : List D} {ys' : List V} (ha : h.f a = some (.lst xs)) (r : RelDs K Z h.n ρ H xs' ys') :
    Ext h.n (h.put a (.lst xs')).n ρ ρ H (upd H (ρ a) (.lst ys')) ∧ Good K Z (h.put a (.lst xs')) ρ (upd H (ρ a) (.lst ys')) := by
  obtain ⟨ys, e, _⟩ := g.obj a _ ha
  exact g.put ha rfl rfl e (fun xs q => by cases q) (fun q v z => by cases z) (fun gs q => by have q' : HO.lst ys = HO.ext _ := q; cases q') (fun x => ⟨ys', upd_same, r.ext x⟩)
/-- a list read -/
theorem Good.sqL (g : Good K Z h ρ H) {a : Nat} {xs : List D} (ha : seqOf h (.ref a) = some xs) : ∃ ys, SqL K H (ρ a) ys ∧ RelDs K Z h.n ρ H xs ys := by
  have ha : (h.f a).bind O.items = some xs := ha
  cases e : h.f a with
  | none => rw [e] at ha; cases ha
  | some o =>
    rw [e] at ha
    have ha : O.items o = some xs := ha
    cases o with
    | lst zs =>
      cases ha
      obtain ⟨ys, q, r⟩ := g.obj a _ e
      exact ⟨ys, SqL.of q, r⟩
    | frz zs =>
      cases ha
      obtain ⟨ys, q | q, r⟩ := g.obj a _ e
      · obtain ⟨o, q⟩ := q
        exact ⟨ys, .inl (.inr ⟨o, q⟩), r⟩
      · exact ⟨ys, q H, r⟩
    | dic kvs => cases ha
    | ins c fs => cases ha
    | exo c fs => cases ha
theorem Good.lst (g : Good K Z h ρ H) {a : Nat} {xs : List D} (ha : h.f a = some (.lst xs)) : ∃ ys, H (ρ a) = some (.lst ys) ∧ RelDs K Z h.n ρ H xs ys := g.obj a _ ha
/-- a sequence: a tuple or a list -/
theorem Good.sq (g : Good K Z h ρ H) {d : D} {v : V} {xs : List D} (rd : RelD K Z h.n ρ H d v) (ha : seqOf h d = some xs) : ∃ p ys, v = .ref p ∧ (SqL K H p ys ∨ SqT K H p ys) ∧ RelDs K Z h.n ρ H xs ys ∧ ((∃ a, d = .ref a ∧ SqL K H p ys) ∨ (d = .tup xs ∧ SqT K H p ys)) := by
  cases d with
  | tup zs =>
    have e : zs = xs := Option.some.inj ha
    subst e
    obtain ⟨a, ys, e, s, r⟩ := relD_tup.mp rd
    exact ⟨a, ys, e, .inr s, r, .inr ⟨rfl, s⟩⟩
  | ref a =>
    obtain ⟨_, e⟩ := relD_ref.mp rd
    obtain ⟨ys, s, r⟩ := g.sqL ha
    exact ⟨_, ys, e, .inl s, r, .inl ⟨a, rfl, s⟩⟩
  | non => cases ha
  | bl b => cases ha
  | int i => cases ha
  | str x => cases ha
  | cls c => cases ha
end

section
variable {X : Cx} {Z : Ad}
theorem op_pAdd : OpR X (binaryOp .Add) (rP2 X.K Z pAdd) := by
  intro pins s σ H x y v u Q I rx ry ⟨ρ, h, d, e, g, rd, re, r, h', hr, hq⟩
  unfold pAdd at hr
  split at hr
  · cases hr
    exact op_add pins s σ H x y v u Q I rx ry ⟨_, _, relD_int.mp rd, relD_int.mp re, hq ρ H _ Ext.refl g (relD_int.mpr rfl)⟩
  · split at hr
    · rename_i hz
      cases hr
      exact op_add_str pins s σ H x y v u Q I rx ry ⟨_, _, relD_str.mp rd, relD_str.mp re, hz, hq ρ H _ Ext.refl g (relD_str.mpr rfl)⟩
    · cases hr
  · split at hr
    · rename_i xs ys ha hb
      split at hr
      · rename_i hz
        cases hr
        obtain ⟨us, hu, ru⟩ := g.lst ha
        obtain ⟨vs, hv, rv⟩ := g.lst hb
        refine op_cat pins s σ H x y v u Q I rx ry ⟨_, _, us, vs, (relD_ref.mp rd).2, (relD_ref.mp re).2, hu, hv, by rw [ru.length, rv.length]; exact hz, fun p hp => ?_⟩
        obtain ⟨x1, g1, r1⟩ := g.newLst hp (ru.append rv)
        exact hq _ _ _ x1 g1 r1
      · cases hr
    · cases hr
  · cases hr
theorem op_pSub : OpR X (binaryOp .Sub) (rP2 X.K Z (pNum .sub)) := by
  intro pins s σ H x y v u Q I rx ry ⟨ρ, h, d, e, g, rd, re, r, h', hr, hq⟩
  unfold pNum at hr
  split at hr
  · cases hr
    exact op_sub pins s σ H x y v u Q I rx ry ⟨_, _, relD_int.mp rd, relD_int.mp re, hq ρ H _ Ext.refl g (relD_int.mpr rfl)⟩
  · cases hr
theorem op_pFdiv : OpR X (binaryOp .FloorDiv) (rP2 X.K Z (pNum .fdiv)) := by
  intro pins s σ H x y v u Q I rx ry ⟨ρ, h, d, e, g, rd, re, r, h', hr, hq⟩
  unfold pNum at hr
  split at hr
  · simp only at hr
    split at hr
    · rename_i hz
      cases hr
      exact op_fdiv pins s σ H x y v u Q I rx ry ⟨_, _, relD_int.mp rd, relD_int.mp re, hz, hq ρ H _ Ext.refl g (relD_int.mpr rfl)⟩
    · cases hr
  · cases hr
theorem op_pMod : OpR X (binaryOp .Mod) (rP2 X.K Z (pNum .mod)) := by
  intro pins s σ H x y v u Q I rx ry ⟨ρ, h, d, e, g, rd, re, r, h', hr, hq⟩
  unfold pNum at hr
  split at hr
  · simp only at hr
    split at hr
    · rename_i hz
      cases hr
      exact op_mod pins s σ H x y v u Q I rx ry ⟨_, _, relD_int.mp rd, relD_int.mp re, hz, hq ρ H _ Ext.refl g (relD_int.mpr rfl)⟩
    · cases hr
  · cases hr
theorem op_pPow : OpR X (binaryOp .Pow) (rP2 X.K Z (pNum .pow)) := by
  intro pins s σ H x y v u Q I rx ry ⟨ρ, h, d, e, g, rd, re, r, h', hr, hq⟩
  unfold pNum at hr
  split at hr
  · simp only at hr
    split at hr
    · rename_i hz
      cases hr
      exact op_pow pins s σ H x y v u Q I rx ry ⟨_, _, relD_int.mp rd, relD_int.mp re, hz, hq ρ H _ Ext.refl g (relD_int.mpr rfl)⟩
    · cases hr
  · cases hr
theorem op_pLt : OpR X (compareOp .Lt) (rP2 X.K Z (pNum .lt)) := by
  intro pins s σ H x y v u Q I rx ry ⟨ρ, h, d, e, g, rd, re, r, h', hr, hq⟩
  unfold pNum at hr
  split at hr
  · cases hr
    exact op_lt pins s σ H x y v u Q I rx ry ⟨_, _, relD_int.mp rd, relD_int.mp re, hq ρ H _ Ext.refl g (relD_bl.mpr rfl)⟩
  · cases hr
theorem op_pLe : OpR X (compareOp .LtE) (rP2 X.K Z (pNum .le)) := by
  intro pins s σ H x y v u Q I rx ry ⟨ρ, h, d, e, g, rd, re, r, h', hr, hq⟩
  unfold pNum at hr
  split at hr
  · cases hr
    exact op_le pins s σ H x y v u Q I rx ry ⟨_, _, relD_int.mp rd, relD_int.mp re, hq ρ H _ Ext.refl g (relD_bl.mpr rfl)⟩
  · cases hr
theorem op_pGt : OpR X (compareOp .Gt) (rP2 X.K Z (pNum .gt)) := by
  intro pins s σ H x y v u Q I rx ry ⟨ρ, h, d, e, g, rd, re, r, h', hr, hq⟩
  unfold pNum at hr
  split at hr
  · cases hr
    exact op_gt pins s σ H x y v u Q I rx ry ⟨_, _, relD_int.mp rd, relD_int.mp re, hq ρ H _ Ext.refl g (relD_bl.mpr rfl)⟩
  · cases hr
theorem op_pGe : OpR X (compareOp .GtE) (rP2 X.K Z (pNum .ge)) := by
  intro pins s σ H x y v u Q I rx ry ⟨ρ, h, d, e, g, rd, re, r, h', hr, hq⟩
  unfold pNum at hr
  split at hr
  · cases hr
    exact op_ge pins s σ H x y v u Q I rx ry ⟨_, _, relD_int.mp rd, relD_int.mp re, hq ρ H _ Ext.refl g (relD_bl.mpr rfl)⟩
  · cases hr
theorem smallI_ok {i j : Int} (h : (smallI i || smallI j) = true) : CMul i j := by
  unfold smallI at h
  simp only [Bool.or_eq_true, Bool.and_eq_true, decide_eq_true_eq] at h
  exact h
theorem op_pMul : OpR X (binaryOp .Mult) (rP2 X.K Z pMul) := by
  intro pins s σ H x y v u Q I rx ry ⟨ρ, h, d, e, g, rd, re, r, h', hr, hq⟩
  unfold pMul at hr
  split at hr
  · split at hr
    · rename_i hz
      cases hr
      exact op_strRep pins s σ H x y v u Q I rx ry ⟨_, _, relD_str.mp rd, relD_int.mp re, hz.1, hz.2.1, hz.2.2, hq ρ H _ Ext.refl g (relD_str.mpr rfl)⟩
    · cases hr
  · split at hr
    · rename_i hz
      cases hr
      exact op_mul pins s σ H x y v u Q I rx ry ⟨_, _, relD_int.mp rd, relD_int.mp re, smallI_ok hz, hq ρ H _ Ext.refl g (relD_int.mpr rfl)⟩
    · cases hr
  · split at hr
    · rename_i xs ha
      split at hr
      · rename_i hz
        cases hr
        obtain ⟨us, hu, ru⟩ := g.lst ha
        refine op_rep pins s σ H x y v u Q I rx ry ⟨_, _, us, (relD_ref.mp rd).2, relD_int.mp re, hu, hz.1, hz.2.1, by rw [ru.length]; exact hz.2.2, fun p hp => ?_⟩
        obtain ⟨x1, g1, r1⟩ := g.newLst hp (ru.replicate _)
        exact hq _ _ _ x1 g1 r1
      · cases hr
    · cases hr
  · cases hr

/-! ### data -/
theorem data_dp {K : PySem.W.Frag} {h : Hh} {ρ : Nat → Addr} {H : Hp} (g : Good K Z h ρ H) : ∀ (k : Nat) {d : D} {v : V} {p : PyData}, data k h d = some p → RelD K Z h.n ρ H d v → Dp K H v p
  | 0, d, v, p, e, _ => by cases e
  | k + 1, d, v, p, e, r => by
    have all : ∀ (xs : List D) (ys : List V) (ps : List PyData), xs.mapM (data k h) = some ps → RelDs K Z h.n ρ H xs ys → DpAll K H ys ps := by
      intro xs
      induction xs with
      | nil =>
        intro ys ps e r
        rw [relDs_nil.mp r]
        cases e
        exact .nil
      | cons x xs ih =>
        intro ys ps e r
        obtain ⟨v, vs, e1, r1, r2⟩ := relDs_cons.mp r
        subst e1
        rw [List.mapM_cons] at e
        cases ex : data k h x with
        | none => rw [ex] at e; cases e
        | some q =>
          rw [ex] at e
          cases er : xs.mapM (data k h) with
          | none => rw [er] at e; cases e
          | some qs =>
            rw [er] at e
            cases e
            exact .cons (data_dp g k ex r1) (ih vs qs er r2)
    unfold data at e
    cases d with
    | non => cases e; rw [relD_non.mp r]; exact .non
    | bl b => cases e; rw [relD_bl.mp r]; exact .bl b
    | int i => cases e; rw [relD_int.mp r]; exact .int i
    | str x => cases e; rw [relD_str.mp r]; exact .str x
    | cls c => cases e
    | tup xs =>
      obtain ⟨a, ys, e1, s, r1⟩ := relD_tup.mp r
      subst e1
      have e : (xs.mapM (data k h)).map PyData.tuple = some p := e
      cases er : xs.mapM (data k h) with
      | none => rw [er] at e; cases e
      | some qs =>
        rw [er] at e
        cases e
        exact .tup s (all xs ys qs er r1)
    | ref a =>
      obtain ⟨_, e1⟩ := relD_ref.mp r
      subst e1
      have go : ∀ xs, seqOf h (.ref a) = some xs → (xs.mapM (data k h)).map PyData.list = some p → Dp K H (.ref (ρ a)) p := fun xs ha e => by
        obtain ⟨ys, s, r1⟩ := g.sqL ha
        cases er : xs.mapM (data k h) with
        | none => rw [er] at e; cases e
        | some qs =>
          rw [er] at e
          cases e
          exact .lst s (all xs ys qs er r1)
      have e : (match (h.f a).bind O.items with
        | some xs => (xs.mapM (data k h)).map PyData.list
        | none => none) = some p := e
      split at e
      · rename_i xs ha
        exact go xs ha e
      · cases e
theorem op_pEq (hu : X.A.units + 64 < cLine) : OpR X (compareOp .Eq) (rP2 X.K Z (pEq false)) := by
  intro pins s σ H x y v u Q I rx ry ⟨ρ, h, d, e, g, rd, re, r, h', hr, hq⟩
  unfold pEq at hr
  split at hr
  · rename_i p q hp hq'
    split at hr
    · rename_i hz
      cases hr
      obtain ⟨z1, z2⟩ := Bool.and_eq_true_iff.mp hz
      refine op_eqD hu pins s σ H x y v u Q I rx ry ⟨p, q, data_dp g 40 hp rd, data_dp g 40 hq' re, z1, z2, hq ρ H _ Ext.refl g (relD_bl.mpr ?_)⟩
      cases PyData.eqv p q <;> rfl
    · cases hr
  · cases hr
theorem op_pNe (hu : X.A.units + 64 < cLine) : OpR X (compareOp .NotEq) (rP2 X.K Z (pEq true)) := by
  intro pins s σ H x y v u Q I rx ry ⟨ρ, h, d, e, g, rd, re, r, h', hr, hq⟩
  unfold pEq at hr
  split at hr
  · rename_i p q hp hq'
    split at hr
    · rename_i hz
      cases hr
      obtain ⟨z1, z2⟩ := Bool.and_eq_true_iff.mp hz
      refine op_neD hu pins s σ H x y v u Q I rx ry ⟨p, q, data_dp g 40 hp rd, data_dp g 40 hq' re, z1, z2, hq ρ H _ Ext.refl g (relD_bl.mpr ?_)⟩
      cases PyData.eqv p q <;> rfl
    · cases hr
  · cases hr

/-! ### subscripts, slices -/
theorem relDs_atI {K : PySem.W.Frag} {n : Nat} {ρ : Nat → Addr} {H : Hp} {xs : List D} {ys : List V} {i : Int} {d : D} (r : RelDs K Z n ρ H xs ys) (e : atI xs i = some d) : ∃ v, atI ys i = some v ∧ RelD K Z n ρ H d v := by
  unfold atI at e ⊢
  rw [r.length]
  cases q : ixN xs.length i with
  | none => rw [q] at e; cases e
  | some j =>
    rw [q] at e
    exact r.get e
theorem ix_p : IxR X (rP2 X.K Z pIx) := by
  intro value slice pins s σ H x y v u Q I rx ry ⟨ρ, h, d, e, g, rd, re, r, h', hr, hq⟩ hs
  unfold pIx at hr
  split at hr
  · rename_i xs i ha
    split at hr
    · rename_i w hw
      cases hr
      obtain ⟨p, ys, e1, _, rs, c⟩ := g.sq rd ha
      obtain ⟨z, hz, rz⟩ := relDs_atI rs hw
      rcases c with ⟨a, _, sl⟩ | ⟨_, st⟩
      · exact ix_list value slice pins s σ H x y v u Q I rx ry ⟨p, ys, i, z, e1, relD_int.mp re, sl, hz, hq ρ H _ Ext.refl g rz⟩ hs
      · exact ix_tup value slice pins s σ H x y v u Q I rx ry ⟨p, ys, i, z, e1, relD_int.mp re, st, hz, hq ρ H _ Ext.refl g rz⟩ hs
    · cases hr
  · cases hr

/-! ### calls of built-ins -/
/-- one value -/
theorem callR1 {f : Value} {T : Tab} {p : P} (hp : p ≠ .tup ∧ p ≠ .lst) (h2 : ∀ x y h, prim2 p x y h = none) (h3 : ∀ x y z h, prim3 p x y z h = none)
    (hc : CallR X f (fun xs H Q => ∃ x, xs = [x] ∧ rP1 X.K Z (prim1 T p) x H Q)) : CallR X f (rPs X.K Z (prim T p)) := by
  intro pins s σ H xs us Q I r ⟨ρ, h, ds, g, rd, d', h', hr, hq⟩
  have e : prim T p ds h = primN T p ds h := by
    cases p with
    | tup => exact absurd rfl hp.1
    | lst => exact absurd rfl hp.2
    | _ => rfl
  rw [e] at hr
  match ds, rd, hr with
  | [d], rd, hr =>
    obtain ⟨v, _, e1, rd1, r2⟩ := relDs_cons.mp rd
    cases relDs_nil.mp r2
    exact hc pins s σ H xs us Q I r ⟨v, e1, ρ, h, d, g, rd1, d', h', hr, hq⟩
  | [], rd, hr => cases hr
  | [x, y], rd, hr =>
    have hr : prim2 p x y h = some (d', h') := hr
    rw [h2] at hr
    cases hr
  | [x, y, z], rd, hr =>
    have hr : prim3 p x y z h = some (d', h') := hr
    rw [h3] at hr
    cases hr
  | _ :: _ :: _ :: _ :: _, rd, hr => cases hr
theorem call_pLen {T : Tab} : CallR X (.builtin "len") (rPs X.K Z (prim T .len)) := callR1 ⟨by simp, by simp⟩ (fun _ _ _ => rfl) (fun _ _ _ _ => rfl) (by
  intro pins s σ H xs us Q I r ⟨x, e1, ρ, h, d, g, rd, d', h', hr, hq⟩
  have hr : pLen d h = some (d', h') := hr
  unfold pLen at hr
  split at hr
  · rename_i zs hz
    cases hr
    obtain ⟨p, ys, e2, c, rs, _⟩ := g.sq rd hz
    exact call_len_seq pins s σ H xs us Q I r ⟨p, ys, by rw [e1, e2], c, hq ρ H _ Ext.refl g (relD_int.mpr (by rw [rs.length]))⟩
  · split at hr
    · split at hr
      · rename_i hz
        cases hr
        exact call_len_str pins s σ H xs us Q I r ⟨_, by rw [e1, relD_str.mp rd], hz, hq ρ H _ Ext.refl g (relD_int.mpr rfl)⟩
      · cases hr
    · cases hr)
theorem call_pInt {T : Tab} : CallR X (.type "int") (rPs X.K Z (prim T .int)) := callR1 ⟨by simp, by simp⟩ (fun _ _ _ => rfl) (fun _ _ _ _ => rfl) (by
  intro pins s σ H xs us Q I r ⟨x, e1, ρ, h, d, g, rd, d', h', hr, hq⟩
  have hr : pInt d h = some (d', h') := hr
  unfold pInt at hr
  split at hr
  · cases hr
    exact call_int1 pins s σ H xs us Q I r (.inl ⟨_, by rw [e1, relD_int.mp rd], hq ρ H _ Ext.refl g (relD_int.mpr rfl)⟩)
  · cases hr
    exact call_int1 pins s σ H xs us Q I r (.inr ⟨_, by rw [e1, relD_bl.mp rd], hq ρ H _ Ext.refl g (relD_int.mpr rfl)⟩)
  · cases hr)
theorem call_pList {T : Tab} : CallR X (.type "list") (rPs X.K Z (prim T .listof)) := callR1 ⟨by simp, by simp⟩ (fun _ _ _ => rfl) (fun _ _ _ _ => rfl) (by
  intro pins s σ H xs us Q I r ⟨x, e1, ρ, h, d, g, rd, d', h', hr, hq⟩
  have hr : pList d h = some (d', h') := hr
  unfold pList at hr
  cases hz : seqOf h d with
  | none => rw [hz] at hr; cases hr
  | some zs =>
    rw [hz] at hr
    cases hr
    obtain ⟨p, ys, e2, c, rs, _⟩ := g.sq rd hz
    refine call_list_of pins s σ H xs us Q I r ⟨p, ys, by rw [e1, e2], c, fun l hl => ?_⟩
    obtain ⟨x1, g1, r1⟩ := g.newLst hl rs
    exact hq _ _ _ x1 g1 r1)
theorem call_pTup {T : Tab} : CallR X (.type "tuple") (rPs X.K Z (prim T .tupof)) := callR1 ⟨by simp, by simp⟩ (fun _ _ _ => rfl) (fun _ _ _ _ => rfl) (by
  intro pins s σ H xs us Q I r ⟨x, e1, ρ, h, d, g, rd, d', h', hr, hq⟩
  have hr : pTup d h = some (d', h') := hr
  unfold pTup at hr
  cases hz : seqOf h d with
  | none => rw [hz] at hr; cases hr
  | some zs =>
    rw [hz] at hr
    cases hr
    obtain ⟨p, ys, e2, _, rs, c⟩ := g.sq rd hz
    refine call_tuple_of pins s σ H xs us Q I r ⟨p, ys, by rw [e1, e2], ?_⟩
    rcases c with ⟨a, _, sl⟩ | ⟨_, st⟩
    · refine .inl ⟨sl, fun l hl => ?_⟩
      obtain ⟨x1, g1, r1⟩ := g.newTup hl rs
      exact hq _ _ _ x1 g1 r1
    · exact .inr ⟨st, hq ρ H _ Ext.refl g (relD_tup.mpr ⟨p, ys, rfl, st, rs⟩)⟩)
end
end Pyi
set_option Elab.async false
set_option linter.all false
set_option maxRecDepth 100000
set_option maxHeartbeats 1000000
/-! Expressions, node by node. -/
namespace Pyi
open PySem L2

section
variable {K : PySem.W.Frag} {Z : Ad} {h : Hh} {ρ : Nat → Addr} {H : Hp}
theorem truth_ok (g : Good K Z h ρ H) {d : D} {v : V} {b : Bool} (r : RelD K Z h.n ρ H d v) (e : truth h d = some b) : TruV K v H b := by
  cases d with
  | non => rw [relD_non.mp r]; cases e; rfl
  | bl c => rw [relD_bl.mp r]; cases e; rfl
  | int i => rw [relD_int.mp r]; cases e; rfl
  | str x =>
    rw [relD_str.mp r]
    have e : (if x.length ≤ sizeLine then some ((x.length : Int) != 0) else none) = some b := e
    split at e
    · rename_i hz
      cases e
      exact ⟨hz, rfl⟩
    · cases e
  | tup xs =>
    obtain ⟨a, ys, e1, s, r1⟩ := relD_tup.mp r
    cases e
    rw [e1]
    refine .inr (.inl ⟨ys, s, ?_⟩)
    cases xs with
    | nil => rw [relDs_nil.mp r1]; rfl
    | cons x xs => obtain ⟨_, _, e2, _⟩ := relDs_cons.mp r1; rw [e2]; rfl
  | ref a =>
    have e : ((h.f a).bind O.items).map (fun xs => !xs.isEmpty) = some b := e
    cases q : (h.f a).bind O.items with
    | none => rw [q] at e; cases e
    | some xs =>
      rw [q] at e
      cases e
      obtain ⟨_, e1⟩ := relD_ref.mp r
      obtain ⟨ys, s, r1⟩ := g.sqL q
      rw [e1]
      refine .inl ⟨ys, s, ?_⟩
      cases xs with
      | nil => rw [relDs_nil.mp r1]; rfl
      | cons x xs => obtain ⟨_, _, e2, _⟩ := relDs_cons.mp r1; rw [e2]; rfl
  | cls c => cases e
end

section
variable {X : Cx} {Z : Ad} {T : Tab} {cl : Nat → List D → Hh → R D} {W : WX} {pos : Pos}
abbrev tE (X : Cx) (Z : Ad) (T : Tab) (cl : Nat → List D → Hh → R D) (W : WX) (e : E) : TE := tI X.K Z W (evalE T cl e)
abbrev tEs (X : Cx) (Z : Ad) (T : Tab) (cl : Nat → List D → Hh → R D) (W : WX) (e : Es) : TA := tIs X.K Z W (evalEs T cl e)
abbrev tT (X : Cx) (Z : Ad) (T : Tab) (cl : Nat → List D → Hh → R D) (W : WX) (e : E) : TT := tIb X.K Z W (evalT T cl e)

theorem rTruth_mid {σ : L2.St} {H : Hp} {d : D} {v : V} {h : Hh} {ρ : Nat → Addr} {γ δ : Type} {rel2 : Rel γ δ} {k : Bool → Hh → R γ} {Q : δ → Hp → Prop} {W : XK} (g : Good X.K Z h ρ H) (r : RelD X.K Z h.n ρ H d v)
    (s : Sat X.K Z rel2 h.n ρ H ((rTruth d h).bind k) Q W) : ∃ b, TruV X.K v H b ∧ Sat X.K Z rel2 h.n ρ H (k b h) Q W := by
  unfold rTruth at s
  cases e : truth h d with
  | none => rw [e] at s; exact s.elim
  | some b =>
    rw [e] at s
    exact ⟨b, truth_ok g r e, s⟩
/-- a value's truth as a test -/
theorem tTru {e : St → Hh → R D} {σ : L2.St} {H : Hp} {Q : Bool → Hp → Prop} (h : tIb X.K Z W (fun σ h => (e σ h).bind rTruth) σ H Q) : tI X.K Z W e σ H (fun x H1 => ∃ k, TruV X.K x H1 k ∧ Q k H1) := by
  obtain ⟨ρ, σI, h0, g, rs, s⟩ := tG.bind (rel1 := RelD X.K Z) (k := fun _ d h => rTruth d h) h
  refine ⟨ρ, σI, h0, g, rs, s.mono (fun v H1 q => ?_) fun _ _ _ q => q⟩
  obtain ⟨ρ1, σ1, h1, d, g1, _, rd, s1⟩ := q
  have s1 : Sat X.K Z relB h1.n ρ1 H1 (R.of ((truth h1 d).map fun b => (b, h1))) Q (fun c d H' => W c d σ H') := s1
  cases e : truth h1 d with
  | none => rw [e] at s1; exact s1.elim
  | some b =>
    rw [e] at s1
    exact ⟨b, truth_ok g1 rd e, s1 ρ1 H1 b Ext.refl g1 rfl⟩
/-- a leaf as a test -/
theorem pt_leaf {src : Expr} {e : E} (ha : PE X src (tE X Z T cl W e)) (hl : ∀ σ h, evalT T cl e σ h = (evalE T cl e σ h).bind rTruth) (he : ∀ whole, isTrue src X.env whole = (do let v ← whole; standAt src.pos; holding [v] (truthy v))) : PT X src (tT X Z T cl W e) :=
  pt_mono (pt_truth ha he) fun σ H Q h => tTru (X := X) (by
    obtain ⟨ρ, σI, h0, g, rs, s⟩ := h
    exact ⟨ρ, σI, h0, g, rs, by rw [hl] at s; exact s⟩)

theorem pe_nVar {x : Str} {i : Nat} (hN : X.N[i]? = some x) (hv : Vis X.env.scope x) (hd : (x == ("__debug__" : Str)) = false) (hcd : (x == ("__classdict__" : Str)) = false) : PE X (.Name x pos) (tE X Z T cl W (.var i)) :=
  pe_mono (pe_var hN hv hd hcd) fun σ H Q h => by
    obtain ⟨ρ, σI, h0, g, rs, s⟩ := h
    have s : Sat X.K Z (RelD X.K Z) h0.n ρ H (look σI i h0) Q _ := s
    unfold look at s
    split at s
    · rename_i d e
      obtain ⟨v, e1, r⟩ := rs.2 i d e
      exact ⟨v, e1, s ρ H v Ext.refl g r⟩
    · exact s.elim
theorem pe_nCon {src : Expr} {d : D} {v : V} (hs : PE X src (tC v)) (hr : ∀ n ρ H, RelD X.K Z n ρ H d v) : PE X src (tE X Z T cl W (.con d)) :=
  pe_mono hs fun σ H Q h => by
    obtain ⟨ρ, σI, h0, g, rs, s⟩ := h
    exact s ρ H v Ext.refl g (hr _ _ _)

/-! ### primitives -/
theorem pe_nBin {a b : Expr} {ea eb : E} {op : Operator} {p : P} (hp : ∀ x y h, prim T p [x, y] h = prim2 p x y h) (ho : OpR X (binaryOp op) (rP2 X.K Z (prim2 p))) (ha : PE X a (tE X Z T cl W ea)) (hb : PE X b (tE X Z T cl W eb)) :
    PE X (.BinOp a op b pos) (tE X Z T cl W (.prim p (.cons ea (.cons eb .nil)))) :=
  pe_mono (pe_op ho ha hb) fun σ H Q h => by
    have q := tP2 (f := prim T p) (a := ea) (b := eb) h
    rw [show (fun d e h => prim T p [d, e] h) = prim2 p from funext fun d => funext fun e => funext fun h => hp d e h] at q
    exact q
theorem pe_nCmp {a b : Expr} {ea eb : E} {op : CmpOp} {p : P} (hp : ∀ x y h, prim T p [x, y] h = prim2 p x y h) (ho : OpR X (compareOp op) (rP2 X.K Z (prim2 p))) (ha : PE X a (tE X Z T cl W ea)) (hb : PE X b (tE X Z T cl W eb)) (hm : behindInMarks op b = false) :
    PE X (.Compare a [op] [b] pos) (tE X Z T cl W (.prim p (.cons ea (.cons eb .nil)))) :=
  pe_mono (pe_cmpR ho ha hb hm) fun σ H Q h => by
    have q := tP2 (f := prim T p) (a := ea) (b := eb) h
    rw [show (fun d e h => prim T p [d, e] h) = prim2 p from funext fun d => funext fun e => funext fun h => hp d e h] at q
    exact q
/-- a primitive that tells a bool -/
def Tells (p : P) : Prop := ∀ x y h d h', prim2 p x y h = some (d, h') → ∃ b, d = .bl b
theorem rP2_tells {p : P} (ht : Tells p) {x y : V} {H : Hp} {Q : VK} (h : rP2 X.K Z (prim2 p) x y H Q) : rP2 X.K Z (prim2 p) x y H (fun v H1 => Q v H1 ∧ ∃ k, v = .bl k) := by
  obtain ⟨ρ, h0, d, e, g, rd, re, r, h', hr, hq⟩ := h
  obtain ⟨b, eb⟩ := ht _ _ _ _ _ hr
  exact ⟨ρ, h0, d, e, g, rd, re, r, h', hr, fun ρ' H' v x g' rv => ⟨hq ρ' H' v x g' rv, b, by rw [eb] at rv; exact relD_bl.mp rv⟩⟩
theorem pt_nCmp {a b : Expr} {ea eb : E} {op : CmpOp} {p : P} (hp : ∀ x y h, prim T p [x, y] h = prim2 p x y h) (ht : Tells p) (ho : OpR X (compareOp op) (rP2 X.K Z (prim2 p))) (ha : PE X a (tE X Z T cl W ea)) (hb : PE X b (tE X Z T cl W eb)) (hm : behindInMarks op b = false) :
    PT X (.Compare a [op] [b] pos) (tT X Z T cl W (.prim p (.cons ea (.cons eb .nil)))) :=
  pt_mono (pt_cmpR (r := fun x y H Q => rP2 X.K Z (prim2 p) x y H Q) ho ha hb hm) fun σ H Q h => by
    have q := tTru (X := X) (e := fun σ h => (evalEs T cl (.cons ea (.cons eb .nil)) σ h).bind fun ds h1 => R.of (prim T p ds h1)) h
    have q := tP2 (f := prim T p) (a := ea) (b := eb) q
    rw [show (fun d e h => prim T p [d, e] h) = prim2 p from funext fun d => funext fun e => funext fun h => hp d e h] at q
    show tI X.K Z W (evalE T cl ea) σ H fun x H1 => tI X.K Z W (evalE T cl eb) σ H1 fun y H2 => rP2 X.K Z (prim2 p) x y H2 fun v H' => ∃ k, v = .bl k ∧ Q k H'
    have mono : ∀ {e : St → Hh → R D} {σ : L2.St} {H : Hp} {Q Q' : VK}, tI X.K Z W e σ H Q → (∀ v H, Q v H → Q' v H) → tI X.K Z W e σ H Q' := fun {e σ H Q Q'} h i => by
      obtain ⟨ρ, σI, h0, g, rs, s⟩ := h
      exact ⟨ρ, σI, h0, g, rs, s.mono i fun _ _ _ q => q⟩
    refine mono q fun x H1 q1 => mono q1 fun y H2 q2 => ?_
    obtain ⟨ρ, h0, d, e, g, rd, re, r, h', hr, hq⟩ := rP2_tells ht q2
    refine ⟨ρ, h0, d, e, g, rd, re, r, h', hr, fun ρ' H' v x g' rv => ?_⟩
    obtain ⟨⟨k, tk, qk⟩, c, ec⟩ := hq ρ' H' v x g' rv
    subst ec
    have e1 : k = c := tk
    exact ⟨c, rfl, e1 ▸ qk⟩
theorem pa_nNil : PA X [] (tEs X Z T cl W .nil) := pa_mono pa_nil fun σ H Q h => tIs_nil h
theorem pa_nCons {a : Expr} {as : List Expr} {e : E} {es : Es} (ha : PE X a (tE X Z T cl W e)) (hr : PA X as (tEs X Z T cl W es)) (hs : starEach (a :: as) X.env = (false, eval a X.env) :: starEach as X.env) : PA X (a :: as) (tEs X Z T cl W (.cons e es)) :=
  pa_mono (pa_cons ha hr hs) fun σ H Q h => tIs_cons h
theorem pe_nTup {as : List Expr} {es : Es} {x1 : Nat} (ha : PA X as (tEs X Z T cl W es)) : PE X (.Tuple as x1 pos) (tE X Z T cl W (.prim .tup es)) :=
  pe_mono (pe_tup ha) fun σ H Q h => by
    obtain ⟨ρ, σI, h0, g, rs, s⟩ := tP (f := prim T .tup) (es := es) h
    refine ⟨ρ, σI, h0, g, rs, s.mono (fun vs H1 q => ?_) fun _ _ _ q => q⟩
    obtain ⟨ρ1, h1, ds, g1, rd, d', h', hr, hq⟩ := q
    have hr : (if ds.length ≤ sizeLine then some (D.tup ds, h1) else none) = some (d', h') := hr
    split at hr
    · rename_i hz
      cases hr
      refine ⟨by rw [rd.length]; exact hz, fun p hp => ?_⟩
      obtain ⟨x1, g2, r1⟩ := g1.newTup hp rd
      exact hq _ _ _ x1 g2 r1
    · cases hr
theorem pe_nLst {as : List Expr} {es : Es} (ha : PA X as (tEs X Z T cl W es)) : PE X (.List as pos) (tE X Z T cl W (.prim .lst es)) :=
  pe_mono (pe_lst ha) fun σ H Q h => by
    obtain ⟨ρ, σI, h0, g, rs, s⟩ := tP (f := prim T .lst) (es := es) h
    refine ⟨ρ, σI, h0, g, rs, s.mono (fun vs H1 q => ?_) fun _ _ _ q => q⟩
    obtain ⟨ρ1, h1, ds, g1, rd, d', h', hr, hq⟩ := q
    have hr : (if ds.length ≤ sizeLine then some (D.ref h1.n, h1.new (.lst ds)) else none) = some (d', h') := hr
    split at hr
    · rename_i hz
      cases hr
      refine ⟨by rw [rd.length]; exact hz, fun p hp => ?_⟩
      obtain ⟨x1, g2, r1⟩ := g1.newLst hp rd
      exact hq _ _ _ x1 g2 r1
    · cases hr
theorem pe_nIx {a b : Expr} {ea eb : E} (ha : PE X a (tE X Z T cl W ea)) (hb : PE X b (tE X Z T cl W eb)) (hs : PlainIx b) : PE X (.Subscript a b pos) (tE X Z T cl W (.prim .ix (.cons ea (.cons eb .nil)))) :=
  pe_mono (pe_ix ix_p ha hb hs) fun σ H Q h => tP2 (f := prim T .ix) (a := ea) (b := eb) h
/-- a built-in function, a built-in type, called -/
theorem pe_nCallB {x : Str} {id : String} {p : P} {pf : Pos} {a : Expr} {as : List Expr} {es : Es} (hc : CallR X (.builtin id) (rPs X.K Z (prim T p))) (hg : Gl X x) (hm : X.mg x = none) (hv : bootBuiltins x = some (.builtin id)) (ha : PA X (a :: as) (tEs X Z T cl W es))
    (hn : x ≠ "__name__") (hdb : (x == ("__debug__" : Str)) = false) (he : starEach (a :: as) X.env = (false, eval a X.env) :: starEach as X.env) (hpl : (backTo pos (starEach as X.env)).any (·.1) = false) : PE X (.Call (.Name x pf) (a :: as) [] pos) (tE X Z T cl W (.prim p es)) :=
  pe_mono (pe_callB hc hg hm hv ha hn hdb he hpl) fun σ H Q h => tP (f := prim T p) (es := es) h
theorem pe_nCallTy {x : Str} {id : String} {p : P} {pf : Pos} {a : Expr} {as : List Expr} {es : Es} (hc : CallR X (.type id) (rPs X.K Z (prim T p))) (hg : Gl X x) (hm : X.mg x = none) (hv : bootBuiltins x = some (.type id)) (ha : PA X (a :: as) (tEs X Z T cl W es))
    (hn : x ≠ "__name__") (hdb : (x == ("__debug__" : Str)) = false) (he : starEach (a :: as) X.env = (false, eval a X.env) :: starEach as X.env) (hpl : (backTo pos (starEach as X.env)).any (·.1) = false) : PE X (.Call (.Name x pf) (a :: as) [] pos) (tE X Z T cl W (.prim p es)) :=
  pe_mono (pe_callTy hc hg hm hv ha hn hdb he hpl) fun σ H Q h => tP (f := prim T p) (es := es) h
theorem pe_nIsN {a : Expr} {ea : E} {j : Nat} {pos' : Pos} (ha : PE X a (tE X Z T cl W ea)) : PE X (.Compare a [.Is] [.Constant .none j pos'] pos) (tE X Z T cl W (.prim .isn (.cons ea .nil))) :=
  pe_mono (pe_cmp (pc_isN ha) rfl) fun σ H Q h => by
    obtain ⟨ρ, σI, h0, g, rs, s⟩ := tP1 (f := prim T .isn) (a := ea) h
    refine ⟨ρ, σI, h0, g, rs, s.mono (fun v H1 q => ?_) fun _ _ _ q => q⟩
    obtain ⟨ρ1, h1, d, g1, rd, d', h', hr, hq⟩ := q
    cases hr
    refine hq ρ1 H1 _ Ext.refl g1 (relD_bl.mpr (congrArg V.bl ?_))
    cases d with
    | non => rw [relD_non.mp rd]; rfl
    | bl b => rw [relD_bl.mp rd]; rfl
    | int i => rw [relD_int.mp rd]; rfl
    | str x => rw [relD_str.mp rd]; rfl
    | tup xs => obtain ⟨a, ys, e, _⟩ := relD_tup.mp rd; rw [e]; rfl
    | ref a => rw [(relD_ref.mp rd).2]; rfl
    | cls c => rw [relD_cls.mp rd]; rfl
theorem pe_nNotN {a : Expr} {ea : E} {j : Nat} {pos' : Pos} (ha : PE X a (tE X Z T cl W ea)) : PE X (.Compare a [.IsNot] [.Constant .none j pos'] pos) (tE X Z T cl W (.prim .notn (.cons ea .nil))) :=
  pe_mono (pe_cmp (pc_notN ha) rfl) fun σ H Q h => by
    obtain ⟨ρ, σI, h0, g, rs, s⟩ := tP1 (f := prim T .notn) (a := ea) h
    refine ⟨ρ, σI, h0, g, rs, s.mono (fun v H1 q => ?_) fun _ _ _ q => q⟩
    obtain ⟨ρ1, h1, d, g1, rd, d', h', hr, hq⟩ := q
    cases hr
    refine hq ρ1 H1 _ Ext.refl g1 (relD_bl.mpr (congrArg V.bl ?_))
    cases d with
    | non => rw [relD_non.mp rd]; rfl
    | bl b => rw [relD_bl.mp rd]; rfl
    | int i => rw [relD_int.mp rd]; rfl
    | str x => rw [relD_str.mp rd]; rfl
    | tup xs => obtain ⟨a, ys, e, _⟩ := relD_tup.mp rd; rw [e]; rfl
    | ref a => rw [(relD_ref.mp rd).2]; rfl
    | cls c => rw [relD_cls.mp rd]; rfl

/-! ### and, or, not, if -/
theorem sat_ite {α β : Type} {rel : Rel α β} {n : Nat} {ρ : Nat → Addr} {H : Hp} {c : Bool} {r r' : R α} {Q : β → Hp → Prop} {W : XK} (s : Sat X.K Z rel n ρ H (if c = true then r else r') Q W) : if c = true then Sat X.K Z rel n ρ H r Q W else Sat X.K Z rel n ρ H r' Q W := by
  cases c <;> exact s
theorem pe_nIte {t a b : Expr} {et ea eb : E} (ht : PT X t (tT X Z T cl W et)) (ha : PE X a (tE X Z T cl W ea)) (hb : PE X b (tE X Z T cl W eb)) : PE X (.IfExp t a b pos) (tE X Z T cl W (.ite et ea eb)) :=
  pe_mono (pe_ifExp ht ha hb) fun σ H Q h => by
    obtain ⟨ρ, σI, h0, g, rs, s⟩ := tG.bind (rel1 := relB) (e := evalT T cl et) (k := fun σ c h1 => if c then evalE T cl ea σ h1 else evalE T cl eb σ h1) h
    refine ⟨ρ, σI, h0, g, rs, s.mono (fun c H1 q => ?_) fun _ _ _ q => q⟩
    obtain ⟨ρ1, σ1, h1, d, g1, rs1, rd, s1⟩ := q
    have rd : c = d := rd
    subst rd
    cases c with
    | true => exact ⟨ρ1, σ1, h1, g1, rs1, s1⟩
    | false => exact ⟨ρ1, σ1, h1, g1, rs1, s1⟩
theorem pt_nNot {a : Expr} {ea : E} (ha : PT X a (tT X Z T cl W ea)) : PT X (.UnaryOp .Not a pos) (tT X Z T cl W (.not ea)) :=
  pt_mono (pt_not ha) fun σ H Q h => by
    obtain ⟨ρ, σI, h0, g, rs, s⟩ := tG.bind (rel1 := relB) (e := evalT T cl ea) (k := fun _ t h1 => R.ok (!t) h1) h
    refine ⟨ρ, σI, h0, g, rs, s.mono (fun c H1 q => ?_) fun _ _ _ q => q⟩
    obtain ⟨ρ1, σ1, h1, d, g1, rs1, rd, s1⟩ := q
    have rd : c = d := rd
    subst rd
    exact s1 ρ1 H1 _ Ext.refl g1 rfl
theorem pe_nNot {a : Expr} {ea : E} (ha : PE X a (tE X Z T cl W ea)) : PE X (.UnaryOp .Not a pos) (tE X Z T cl W (.not ea)) :=
  pe_mono (pe_notT ha) fun σ H Q h => by
    obtain ⟨ρ, σI, h0, g, rs, s⟩ := tG.bind (rel1 := RelD X.K Z) (e := evalE T cl ea) (k := fun _ d h1 => (rTruth d h1).bind fun t h2 => R.ok (D.bl (!t)) h2) h
    refine ⟨ρ, σI, h0, g, rs, s.mono (fun c H1 q => ?_) fun _ _ _ q => q⟩
    obtain ⟨ρ1, σ1, h1, d, g1, rs1, rd, s1⟩ := q
    obtain ⟨b, tb, s2⟩ := rTruth_mid (σ := σ) g1 rd s1
    exact ⟨b, tb, s2 ρ1 H1 _ Ext.refl g1 (relD_bl.mpr rfl)⟩
theorem pw_nAnd {a b : Expr} {rest : List Expr} {ea eb : E} (ha : PT X a (tT X Z T cl W ea)) (hb : PW X (.BoolOp .And (b :: rest) pos) (tT X Z T cl W eb)) : PW X (.BoolOp .And (a :: b :: rest) pos) (tT X Z T cl W (.and ea eb)) :=
  pw_mono (pw_and ha hb) fun σ H Q h => by
    obtain ⟨ρ, σI, h0, g, rs, s⟩ := tG.bind (rel1 := relB) (e := evalT T cl ea) (k := fun σ t h1 => if t then evalT T cl eb σ h1 else R.ok false h1) h
    refine ⟨ρ, σI, h0, g, rs, s.mono (fun c H1 q => ?_) fun _ _ _ q => q⟩
    obtain ⟨ρ1, σ1, h1, d, g1, rs1, rd, s1⟩ := q
    have rd : c = d := rd
    subst rd
    cases c with
    | true => exact ⟨ρ1, σ1, h1, g1, rs1, s1⟩
    | false => exact s1 ρ1 H1 _ Ext.refl g1 rfl
theorem pw_nOr {a b : Expr} {rest : List Expr} {ea eb : E} (ha : PT X a (tT X Z T cl W ea)) (hb : PW X (.BoolOp .Or (b :: rest) pos) (tT X Z T cl W eb)) : PW X (.BoolOp .Or (a :: b :: rest) pos) (tT X Z T cl W (.or ea eb)) :=
  pw_mono (pw_or ha hb) fun σ H Q h => by
    obtain ⟨ρ, σI, h0, g, rs, s⟩ := tG.bind (rel1 := relB) (e := evalT T cl ea) (k := fun σ t h1 => if t then R.ok true h1 else evalT T cl eb σ h1) h
    refine ⟨ρ, σI, h0, g, rs, s.mono (fun c H1 q => ?_) fun _ _ _ q => q⟩
    obtain ⟨ρ1, σ1, h1, d, g1, rs1, rd, s1⟩ := q
    have rd : c = d := rd
    subst rd
    cases c with
    | true => exact s1 ρ1 H1 _ Ext.refl g1 rfl
    | false => exact ⟨ρ1, σ1, h1, g1, rs1, s1⟩
theorem pe_nAnd {a b : Expr} {rest : List Expr} {ea eb : E} (ha : PE X a (tE X Z T cl W ea)) (hb : PE X (.BoolOp .And (b :: rest) pos) (tE X Z T cl W eb)) : PE X (.BoolOp .And (a :: b :: rest) pos) (tE X Z T cl W (.and ea eb)) :=
  pe_mono (pe_andT ha hb) fun σ H Q h => by
    obtain ⟨ρ, σI, h0, g, rs, s⟩ := tG.bind (rel1 := RelD X.K Z) (e := evalE T cl ea) (k := fun σ d h1 => (rTruth d h1).bind fun t h2 => if t then evalE T cl eb σ h2 else R.ok d h2) h
    refine ⟨ρ, σI, h0, g, rs, s.mono (fun c H1 q => ?_) fun _ _ _ q => q⟩
    obtain ⟨ρ1, σ1, h1, d, g1, rs1, rd, s1⟩ := q
    obtain ⟨b, tb, s2⟩ := rTruth_mid (σ := σ) g1 rd s1
    refine ⟨b, tb, ?_⟩
    cases b with
    | true => exact ⟨ρ1, σ1, h1, g1, rs1, s2⟩
    | false => exact s2 ρ1 H1 _ Ext.refl g1 rd
theorem pe_nOr {a b : Expr} {rest : List Expr} {ea eb : E} (ha : PE X a (tE X Z T cl W ea)) (hb : PE X (.BoolOp .Or (b :: rest) pos) (tE X Z T cl W eb)) : PE X (.BoolOp .Or (a :: b :: rest) pos) (tE X Z T cl W (.or ea eb)) :=
  pe_mono (pe_orT ha hb) fun σ H Q h => by
    obtain ⟨ρ, σI, h0, g, rs, s⟩ := tG.bind (rel1 := RelD X.K Z) (e := evalE T cl ea) (k := fun σ d h1 => (rTruth d h1).bind fun t h2 => if t then R.ok d h2 else evalE T cl eb σ h2) h
    refine ⟨ρ, σI, h0, g, rs, s.mono (fun c H1 q => ?_) fun _ _ _ q => q⟩
    obtain ⟨ρ1, σ1, h1, d, g1, rs1, rd, s1⟩ := q
    obtain ⟨b, tb, s2⟩ := rTruth_mid (σ := σ) g1 rd s1
    refine ⟨b, tb, ?_⟩
    cases b with
    | true => exact s2 ρ1 H1 _ Ext.refl g1 rd
    | false => exact ⟨ρ1, σ1, h1, g1, rs1, s2⟩
end
end Pyi
set_option Elab.async false
set_option linter.all false
set_option maxRecDepth 100000
set_option maxHeartbeats 1000000
/-! Statements. -/
namespace Pyi
open PySem L2

section
variable (K : PySem.W.Frag) (Z : Ad)
def SSat (n : Nat) (ρ : Nat → Addr) (H : Hp) (r : SR) (D : Ends) (W : WX) : Prop := match r with
  | .next σI h => ∀ ρ' H' σ, Ext n h.n ρ ρ' H H' → Good K Z h ρ' H' → RelS K Z h.n ρ' H' σI σ → D.nx σ H'
  | .brk σI h => ∀ ρ' H' σ, Ext n h.n ρ ρ' H H' → Good K Z h ρ' H' → RelS K Z h.n ρ' H' σI σ → D.bk σ H'
  | .cnt σI h => ∀ ρ' H' σ, Ext n h.n ρ ρ' H H' → Good K Z h ρ' H' → RelS K Z h.n ρ' H' σI σ → D.ct σ H'
  | .ret d h => ∀ ρ' H' v, Ext n h.n ρ ρ' H H' → Good K Z h ρ' H' → RelD K Z h.n ρ' H' d v → D.rt v H'
  | .exc c fs σI h => ∀ ρ' H' σ cls d, Ext n h.n ρ ρ' H H' → Good K Z h ρ' H' → RelS K Z h.n ρ' H' σI σ → RelX K Z h.n ρ' H' c fs cls d → W cls d σ H'
  | .bad => False
def tS (W : WX) (e : St → Hh → SR) : TS := fun D σ H => ∃ ρ σI h, Good K Z h ρ H ∧ RelS K Z h.n ρ H σI σ ∧ SSat K Z h.n ρ H (e σI h) D W
/-- slots but those of ss stay -/
def Frm (ss : List Nat) (σ σ' : L2.St) : Prop := σ'.length = σ.length ∧ ∀ j : Nat, j ∉ ss → σ'[j]? = σ[j]?
/-- a store -/
def GSat (ss : List Nat) (σ : L2.St) (n : Nat) (ρ : Nat → Addr) (H : Hp) (r : Option (St × Hh)) (Q : L2.St → Hp → Prop) : Prop := ∃ σI h, r = some (σI, h) ∧ ∀ ρ' H' σ', Ext n h.n ρ ρ' H H' → Good K Z h ρ' H' → RelS K Z h.n ρ' H' σI σ' → Frm ss σ σ' → Q σ' H'
def tSt (ss : List Nat) (e : D → St → Hh → Option (St × Hh)) : TG := fun v σ H Q => ∃ ρ σI h d, Good K Z h ρ H ∧ RelS K Z h.n ρ H σI σ ∧ RelD K Z h.n ρ H d v ∧ GSat K Z ss σ h.n ρ H (e d σI h) Q
def tSts (ss : List Nat) (e : List D → St → Hh → Option (St × Hh)) : TGs := fun vs σ H Q => ∃ ρ σI h ds, Good K Z h ρ H ∧ RelS K Z h.n ρ H σI σ ∧ RelDs K Z h.n ρ H ds vs ∧ GSat K Z ss σ h.n ρ H (e ds σI h) Q
end

section
variable {K : PySem.W.Frag} {Z : Ad} {n n' : Nat} {ρ ρ' : Nat → Addr} {H H' : Hp} {W : WX} {σI : St} {σ : L2.St} {De : Ends} {α β : Type} {rel : Rel α β}
theorem SSat.ext {r : SR} (x : Ext n n' ρ ρ' H H') (h : SSat K Z n ρ H r De W) : SSat K Z n' ρ' H' r De W := by
  cases r with
  | next σI h' => exact fun ρ2 H2 b y g q => h ρ2 H2 b (x.trans y) g q
  | brk σI h' => exact fun ρ2 H2 b y g q => h ρ2 H2 b (x.trans y) g q
  | cnt σI h' => exact fun ρ2 H2 b y g q => h ρ2 H2 b (x.trans y) g q
  | ret d h' => exact fun ρ2 H2 b y g q => h ρ2 H2 b (x.trans y) g q
  | exc c fs σI h' => exact fun ρ2 H2 b cls d y g q z => h ρ2 H2 b cls d (x.trans y) g q z
  | bad => exact h
theorem SSat.of {r : R α} {k : α → Hh → SR} (rs : RelS K Z n ρ H σI σ) (h : SSat K Z n ρ H (SR.of r σI k) De W) :
    Sat K Z rel n ρ H r (fun b H1 => ∃ ρ1 h1 a, Good K Z h1 ρ1 H1 ∧ RelS K Z h1.n ρ1 H1 σI σ ∧ rel h1.n ρ1 H1 a b ∧ SSat K Z h1.n ρ1 H1 (k a h1) De W) (fun c d H' => W c d σ H') := by
  cases r with
  | ok a h' => exact fun ρ2 H2 b y g q => ⟨ρ2, h', a, g, rs.ext y, q, SSat.ext y h⟩
  | exc c fs h' => exact fun ρ2 H2 cls d y g q => h ρ2 H2 σ cls d y g (rs.ext y) q
  | bad => exact h
theorem tS.of {e : St → Hh → R α} {k : St → α → Hh → SR} (h : tS K Z W (fun σ h => SR.of (e σ h) σ (k σ)) De σ H) :
    tG K Z rel W e σ H (fun b H1 => ∃ ρ1 σI h1 a, Good K Z h1 ρ1 H1 ∧ RelS K Z h1.n ρ1 H1 σI σ ∧ rel h1.n ρ1 H1 a b ∧ SSat K Z h1.n ρ1 H1 (k σI a h1) De W) := by
  obtain ⟨ρ, σI, h0, g, rs, s⟩ := h
  refine ⟨ρ, σI, h0, g, rs, (SSat.of (rel := rel) rs s).mono (fun b H1 q => ?_) fun _ _ _ q => q⟩
  obtain ⟨ρ1, h1, a, g1, rs1, ra, s1⟩ := q
  exact ⟨ρ1, σI, h1, a, g1, rs1, ra, s1⟩
theorem Frm.refl {ss : List Nat} : Frm ss σ σ := ⟨rfl, fun _ _ => rfl⟩
theorem Frm.app {s1 s2 : List Nat} {σ' σ2 : L2.St} (a : Frm s1 σ σ') (b : Frm s2 σ' σ2) : Frm (s1 ++ s2) σ σ2 := ⟨b.1.trans a.1, fun j hj => by
  rw [List.mem_append, not_or] at hj
  exact (b.2 j hj.2).trans (a.2 j hj.1)⟩
theorem RelS.set {i : Nat} {d : D} {v : V} (rs : RelS K Z n ρ H σI σ) (r : RelD K Z n ρ H d v) : RelS K Z n ρ H (σI.set i (some d)) (σ.set i (some v)) := by
  refine ⟨by rw [List.length_set, List.length_set]; exact rs.1, fun j e hj => ?_⟩
  by_cases q : i = j
  · subst q
    have hi : i < σI.length := by
      have := (List.getElem?_eq_some_iff.mp hj).1
      simpa using this
    rw [List.getElem?_set_self hi] at hj
    cases hj
    exact ⟨v, List.getElem?_set_self (by rw [← rs.1]; exact hi), r⟩
  · rw [List.getElem?_set_ne q] at hj
    obtain ⟨u, e1, r1⟩ := rs.2 j e hj
    exact ⟨u, by rw [List.getElem?_set_ne q]; exact e1, r1⟩
end

section
variable {X : Cx} {Z : Ad} {T : Tab} {cl : Nat → List D → Hh → R D} {W : WX} {pos : Pos}
abbrev tX (X : Cx) (Z : Ad) (T : Tab) (cl : Nat → List D → Hh → R D) (W : WX) (s : S) : TS := tS X.K Z W (exec T cl s)
abbrev tXs (X : Cx) (Z : Ad) (T : Tab) (cl : Nat → List D → Hh → R D) (W : WX) (s : Ss) : TS := tS X.K Z W (execs T cl s)
abbrev tGt (X : Cx) (Z : Ad) (T : Tab) (cl : Nat → List D → Hh → R D) (g : G) : TG := tSt X.K Z g.slots (store T cl g)
abbrev tGts (X : Cx) (Z : Ad) (T : Tab) (cl : Nat → List D → Hh → R D) (g : Gs) : TGs := tSts X.K Z g.slots (stores T cl g)

theorem pg_mono {tg : Expr} {t t' : TG} (h : PG X tg t) (i : ∀ v σ H Q, t' v σ H Q → t v σ H Q) : PG X tg t' := ⟨fun pins s σ H v u Q I r q => h.run pins s σ H v u Q I r (i v σ H Q q)⟩
theorem pgs_mono {tg : List Expr} {t t' : TGs} (h : PGs X tg t) (i : ∀ v σ H Q, t' v σ H Q → t v σ H Q) : PGs X tg t' := ⟨fun pins s σ H v u Q I r q => h.run pins s σ H v u Q I r (i v σ H Q q)⟩
theorem pe_stuck {src : Expr} : PE X src (tE X Z T cl W .stuck) := ⟨fun _ _ _ _ _ _ h => by obtain ⟨_, _, _, _, _, s⟩ := h; exact s.elim⟩
theorem pt_stuck {src : Expr} : PT X src (tT X Z T cl W .stuck) := ⟨fun _ _ _ _ _ _ h => by obtain ⟨_, _, _, _, _, s⟩ := h; exact s.elim⟩
theorem pg_stuck {src : Expr} : PG X src (tGt X Z T cl .stuck) := ⟨fun _ _ _ _ _ _ _ _ _ h => by obtain ⟨_, _, _, _, _, _, _, _, _, e, _⟩ := h; cases e⟩
theorem ps_stuck {src : Stmt} : PS X src (tX X Z T cl W .stuck) := ⟨fun _ _ _ _ _ _ h => by obtain ⟨_, _, _, _, _, s⟩ := h; exact s.elim⟩

theorem ps_nExpr {src : Expr} {e : E} (he : PE X src (tE X Z T cl W e)) (hs : swapsWith src none pos.line X.env = pure false) : PS X (.Expr src pos) (tX X Z T cl W (.expr e)) :=
  ps_mono (ps_expr he hs) fun D σ H h => by
    obtain ⟨ρ, σI, h0, g, rs, s⟩ := tS.of (rel := RelD X.K Z) (e := evalE T cl e) (k := fun σ _ h1 => SR.next σ h1) h
    refine ⟨ρ, σI, h0, g, rs, s.mono (fun v H1 q => ?_) fun _ _ _ q => q⟩
    obtain ⟨ρ1, σ1, h1, d, g1, rs1, _, s1⟩ := q
    exact s1 ρ1 H1 σ Ext.refl g1 rs1
theorem ps_nRet {src : Expr} {e : E} (he : PE X src (tE X Z T cl W e)) : PS X (.Return (some src) pos) (tX X Z T cl W (.ret e)) :=
  ps_mono (ps_ret he) fun D σ H h => by
    obtain ⟨ρ, σI, h0, g, rs, s⟩ := tS.of (rel := RelD X.K Z) (e := evalE T cl e) (k := fun _ d h1 => SR.ret d h1) h
    refine ⟨ρ, σI, h0, g, rs, s.mono (fun v H1 q => ?_) fun _ _ _ q => q⟩
    obtain ⟨ρ1, σ1, h1, d, g1, rs1, rd, s1⟩ := q
    exact s1 ρ1 H1 v Ext.refl g1 rd
theorem ps_nRetN : PS X (.Return none pos) (tX X Z T cl W (.ret (.con .non))) :=
  ps_mono ps_retN fun D σ H h => by
    obtain ⟨ρ, σI, h0, g, rs, s⟩ := h
    exact s ρ H .non Ext.refl g (relD_non.mpr rfl)
theorem ps_nPass : PS X (.Pass pos) (tX X Z T cl W .pass) :=
  ps_mono ps_pass fun D σ H h => by
    obtain ⟨ρ, σI, h0, g, rs, s⟩ := h
    exact s ρ H σ Ext.refl g rs
theorem ps_nBrk : PS X (.Break pos) (tX X Z T cl W .brk) :=
  ps_mono ps_break fun D σ H h => by
    obtain ⟨ρ, σI, h0, g, rs, s⟩ := h
    exact s ρ H σ Ext.refl g rs
theorem ps_nCnt : PS X (.Continue pos) (tX X Z T cl W .cnt) :=
  ps_mono ps_continue fun D σ H h => by
    obtain ⟨ρ, σI, h0, g, rs, s⟩ := h
    exact s ρ H σ Ext.refl g rs
theorem pss_nNil : PSs X [] (tXs X Z T cl W .nil) :=
  pss_mono pss_nil fun D σ H h => by
    obtain ⟨ρ, σI, h0, g, rs, s⟩ := h
    exact s ρ H σ Ext.refl g rs
theorem pss_nCons {a : Stmt} {as : List Stmt} {s : S} {ss : Ss} (ha : PS X a (tX X Z T cl W s)) (hr : PSs X as (tXs X Z T cl W ss)) : PSs X (a :: as) (tXs X Z T cl W (.cons s ss)) :=
  pss_mono (pss_cons ha hr) fun D σ H h => by
    obtain ⟨ρ, σI, h0, g, rs, q⟩ := h
    refine ⟨ρ, σI, h0, g, rs, ?_⟩
    have q : SSat X.K Z h0.n ρ H (seqK (exec T cl s σI h0) (execs T cl ss)) D W := q
    cases e : exec T cl s σI h0 with
    | next σ1 h1 => rw [e] at q; exact fun ρ1 H1 σ2 x g1 r1 => ⟨ρ1, σ1, h1, g1, r1, SSat.ext x q⟩
    | brk σ1 h1 => rw [e] at q; exact q
    | cnt σ1 h1 => rw [e] at q; exact q
    | ret d h1 => rw [e] at q; exact q
    | exc c fs σ1 h1 => rw [e] at q; exact q
    | bad => rw [e] at q; exact q
theorem pss_nrm {as : List Stmt} {ss : Ss} (h : PSs X as (tXs X Z T cl W ss)) : PSs X as (tXs X Z T cl W (.cons .nrm ss)) :=
  pss_mono h fun D σ H q => by
    obtain ⟨ρ, σI, h0, g, rs, s⟩ := q
    exact ⟨ρ, σI, h0.norm, g.norm, rs, s⟩
theorem ps_nIf {t : Expr} {a b : List Stmt} {et : E} {ea eb : Ss} (ht : PT X t (tT X Z T cl W et)) (ha : PSs X a (tXs X Z T cl W ea)) (hb : PSs X b (tXs X Z T cl W eb)) : PS X (.If t a b pos) (tX X Z T cl W (.ifs et ea eb)) :=
  ps_mono (ps_if ht ha hb) fun D σ H h => by
    obtain ⟨ρ, σI, h0, g, rs, s⟩ := tS.of (rel := relB) (e := evalT T cl et) (k := fun σ c h1 => if c then execs T cl ea σ h1 else execs T cl eb σ h1) h
    refine ⟨ρ, σI, h0, g, rs, s.mono (fun c H1 q => ?_) fun _ _ _ q => q⟩
    obtain ⟨ρ1, σ1, h1, d, g1, rs1, rd, s1⟩ := q
    have rd : c = d := rd
    subst rd
    cases c with
    | true => exact ⟨ρ1, σ1, h1, g1, rs1, s1⟩
    | false => exact ⟨ρ1, σ1, h1, g1, rs1, s1⟩

/-! ### targets -/
/-- no exception is wished -/
abbrev W0 : WX := fun _ _ _ _ => False
theorem takes_no : Takes X W0 := fun u s' x => by
  obtain ⟨a, B, sI, pins, σ, H, cls, d, e, I, nb, up, sky, na, os, ag, w⟩ := x
  exact w.elim
theorem pg_nName {i : Nat} {x : Str} (hN : X.N.Nodup) (hi : X.N[i]? = some x) (hx : Loc X.env.scope x) (hf : X.fn x = true ∨ X.env.scope.names.lookup x = some .local) : PG X (.Name x pos) (tGt X Z T cl (.name i)) :=
  pg_mono (pg_name hN hi hx hf) fun v σ H Q h => by
    obtain ⟨ρ, σI, h0, d, g, rs, rd, σ1, h1, e, s⟩ := h
    cases e
    exact s ρ H _ Ext.refl g (RelS.set rs rd) ⟨List.length_set .., fun j hj => List.getElem?_set_ne (fun e => hj (by rw [e]; exact List.mem_singleton.mpr rfl))⟩
theorem pgs_nNil : PGs X [] (tGts X Z T cl .nil) :=
  pgs_mono pgs_nil fun vs σ H Q h => by
    obtain ⟨ρ, σI, h0, ds, g, rs, rd, σ1, h1, e, s⟩ := h
    cases ds with
    | nil =>
      cases e
      exact ⟨relDs_nil.mp rd, s ρ H σ Ext.refl g rs Frm.refl⟩
    | cons d ds => cases e
theorem pgs_nCons {e : Expr} {es : List Expr} {g : G} {gs : Gs} (h1 : PG X e (tGt X Z T cl g)) (h2 : PGs X es (tGts X Z T cl gs)) (hs : (assignEach (e :: es) X.env).map (·.2) = assign e X.env :: (assignEach es X.env).map (·.2)) : PGs X (e :: es) (tGts X Z T cl (.cons g gs)) :=
  pgs_mono (pgs_cons h1 h2 hs) fun vs σ H Q h => by
    obtain ⟨ρ, σI, h0, ds, g0, rs, rd, σ1, hh, e, s⟩ := h
    cases ds with
    | nil => cases e
    | cons d ds =>
      obtain ⟨v, r, e1, r1, r2⟩ := relDs_cons.mp rd
      have e : (store T cl g d σI h0).bind (fun p => stores T cl gs ds p.1 p.2) = some (σ1, hh) := e
      cases e2 : store T cl g d σI h0 with
      | none => rw [e2] at e; cases e
      | some p =>
        rw [e2] at e
        refine ⟨v, r, e1, ρ, σI, h0, d, g0, rs, r1, p.1, p.2, e2, fun ρ1 H1 σ2 x g1 rs1 f1 => ?_⟩
        exact ⟨ρ1, p.1, p.2, ds, g1, rs1, r2.ext x, σ1, hh, e, fun ρ3 H3 σ3 y g3 rs3 f3 => s ρ3 H3 σ3 (x.trans y) g3 rs3 (f1.app f3)⟩
theorem pg_nTup {es : List Expr} {gs : Gs} {k n : Nat} (hc : X.calm = true) (h : PGs X es (tGts X Z T cl gs)) (hn : (assignEach es X.env).length = n) (hst : (assignEach es X.env).findIdx? (·.1) = none) (hl : ∀ ds σ h σ' h', stores T cl gs ds σ h = some (σ', h') → ds.length = n) : PG X (.Tuple es k pos) (tGt X Z T cl (.tup gs)) :=
  pg_mono (pg_tup hc h hn hst) fun v σ H Q h => by
    obtain ⟨ρ, σI, h0, d, g, rs, rd, σ1, hh, e, s⟩ := h
    cases d with
    | tup xs =>
      have e : stores T cl gs xs σI h0 = some (σ1, hh) := e
      obtain ⟨a, ys, e1, sq, r1⟩ := relD_tup.mp rd
      exact ⟨a, ys, e1, sq, by rw [r1.length]; exact hl _ _ _ _ _ e, ρ, σI, h0, xs, g, rs, r1, σ1, hh, e, s⟩
    | non => cases e
    | bl b => cases e
    | int i => cases e
    | str x => cases e
    | ref a => cases e
    | cls c => cases e
theorem setIx_some {x y d : D} {h h' : Hh} (e : setIx x y d h = some h') : ∃ a k xs j, x = .ref a ∧ y = .int k ∧ h.f a = some (.lst xs) ∧ ixN xs.length k = some j ∧ h' = h.put a (.lst (xs.set j d)) := by
  unfold setIx at e
  split at e
  · rename_i a k
    split at e
    · rename_i xs hx
      cases e4 : ixN xs.length k with
      | none => rw [e4] at e; cases e
      | some j =>
        rw [e4] at e
        cases e
        exact ⟨a, k, xs, j, rfl, rfl, hx, e4, rfl⟩
    · cases e
  · cases e
theorem opt_some {α : Type} {r : R α} {p : α × Hh} (h : r.opt = some p) : r = .ok p.1 p.2 := by
  cases r with
  | ok a h' => cases h; rfl
  | exc c fs h' => cases h
  | bad => cases h
theorem pg_nSub {o i : Expr} {eo ei : E} (ho : PE X o (tE X Z T cl W0 eo)) (hi : PE X i (tE X Z T cl W0 ei))
    (ha : ∀ v, assign (.Subscript o i pos) X.env v = (do
      let ov ← holding [v] (eval o X.env)
      let iv ← holding [v, ov] (eval i X.env)
      standAt pos
      holding [v, ov, iv] (setItem ov iv v)
      release [v, ov, iv] [])) : PG X (.Subscript o i pos) (tGt X Z T cl (.sub eo ei)) :=
  pg_mono (pg_sub ho hi set_list ha) fun v σ H Q h => by
    obtain ⟨ρ, σI, h0, d, g, rs, rd, σ1, hh, e, s⟩ := h
    have e : (evalE T cl eo σI h0).opt.bind (fun p => (evalE T cl ei σI p.2).opt.bind fun q => (setIx p.1 q.1 d q.2).map fun h3 => (σI, h3)) = some (σ1, hh) := e
    cases e1 : (evalE T cl eo σI h0).opt with
    | none => rw [e1] at e; cases e
    | some p =>
      rw [e1] at e
      have e : (evalE T cl ei σI p.2).opt.bind (fun q => (setIx p.1 q.1 d q.2).map fun h3 => (σI, h3)) = some (σ1, hh) := e
      cases e2 : (evalE T cl ei σI p.2).opt with
      | none => rw [e2] at e; cases e
      | some q =>
        rw [e2] at e
        have e : (setIx p.1 q.1 d q.2).map (fun h3 => (σI, h3)) = some (σ1, hh) := e
        refine ⟨ρ, σI, h0, g, rs, ?_⟩
        rw [opt_some e1]
        refine fun ρ1 H1 b1 x1 g1 r1 => ⟨ρ1, σI, p.2, g1, RelS.ext x1 rs, ?_⟩
        rw [opt_some e2]
        refine fun ρ2 H2 b2 x2 g2 r2 => ?_
        cases e3 : setIx p.1 q.1 d q.2 with
        | none => rw [e3] at e; cases e
        | some h3 =>
          rw [e3] at e
          cases e
          obtain ⟨px, ph⟩ := p
          obtain ⟨qx, qh⟩ := q
          replace e3 : setIx px qx d qh = some hh := e3
          obtain ⟨a, k, xs, j, rfl, rfl, hx, e4, rfl⟩ := setIx_some e3
          have r1' := RelD.ext x2 r1
          obtain ⟨ys, hy, ry⟩ := g2.lst hx
          refine ⟨ρ2 a, ys, k, j, (relD_ref.mp r1').2, relD_int.mp r2, hy, by rw [ry.length]; exact e4, ?_⟩
          obtain ⟨x3, g3⟩ := g2.putLst hx (RelDs.set (RelD.ext (x1.trans x2) rd) j ry)
          exact s ρ2 _ σ ((x1.trans x2).trans x3) g3 (RelS.ext ((x1.trans x2).trans x3) rs) Frm.refl
theorem ps_nAsg {tg src : Expr} {g : G} {e : E} (he : PE X src (tE X Z T cl W e)) (hg : PG X tg (tGt X Z T cl g)) (hs : swapsWithSole [tg] src pos.line X.env = pure false) (hw : swappedStores [tg] src X.env = pure none) (h1 : (assignEach [tg] X.env).map (·.2) = [assign tg X.env]) : PS X (.Assign [tg] src pos) (tX X Z T cl W (.asg g e)) :=
  ps_mono (ps_asg he hg hs hw h1) fun D σ H h => by
    obtain ⟨ρ, σI, h0, g0, rs, s⟩ := tS.of (rel := RelD X.K Z) (e := evalE T cl e) (k := fun σ d h1 => SR.of (R.of (store T cl g d σ h1)) σ fun σ1 h2 => SR.next σ1 h2) h
    refine ⟨ρ, σI, h0, g0, rs, s.mono (fun v H1 q => ?_) fun _ _ _ q => q⟩
    obtain ⟨ρ1, σ1, h1, d, g1, rs1, rd, s1⟩ := q
    have s1 : SSat X.K Z h1.n ρ1 H1 (SR.of (R.of (store T cl g d σ1 h1)) σ1 fun σ1 h2 => SR.next σ1 h2) D W := s1
    cases e1 : store T cl g d σ1 h1 with
    | none => rw [e1] at s1; exact s1.elim
    | some p =>
      rw [e1] at s1
      exact ⟨ρ1, σ1, h1, d, g1, rs1, rd, p.1, p.2, e1, fun ρ2 H2 σ2 x g2 r2 _ => s1 ρ2 H2 σ2 x g2 r2⟩
end
end Pyi
set_option Elab.async false
set_option linter.all false
set_option maxRecDepth 100000
set_option maxHeartbeats 1000000
/-! Loops and comprehensions. -/
namespace Pyi
open PySem L2

def ItRel (K : PySem.W.Frag) (Z : Ad) (n : Nat) (ρ : Nat → Addr) (H : Hp) : It → L2.It → Prop
  | .fix xs, J => ∃ a ys, J = Itt K a ∧ SqT K H a ys ∧ RelDs K Z n ρ H xs ys
  | .rng lo k, J => J = Itr lo k
  | .lst a, J => a < n ∧ J = Itl K (ρ a)
section
variable {K : PySem.W.Frag} {Z : Ad} {n n' : Nat} {ρ ρ' : Nat → Addr} {H H' : Hp} {it : It} {J : L2.It} {h : Hh}
theorem ItRel.ext (x : Ext n n' ρ ρ' H H') (r : ItRel K Z n ρ H it J) : ItRel K Z n' ρ' H' it J := by
  cases it with
  | fix xs =>
    obtain ⟨a, ys, e, s, r⟩ := r
    exact ⟨a, ys, e, sqT_ext x s, r.ext x⟩
  | rng lo k => exact r
  | lst a => exact ⟨Nat.lt_of_lt_of_le r.1 x.le, by rw [x.eq a r.1]; exact r.2⟩
theorem ItRel.stop (g : Good K Z h ρ H) (r : ItRel K Z h.n ρ H it J) {i : Nat} (e : it.at i h = some none) : J.stop i H := by
  cases it with
  | fix xs =>
    obtain ⟨a, ys, e1, s, r⟩ := r
    have e : some xs[i]? = some none := e
    have e := Option.some.inj e
    rw [e1]
    exact ⟨ys, s, by rw [r.length]; exact List.getElem?_eq_none_iff.mp e⟩
  | rng lo k =>
    have r : J = Itr lo k := r
    rw [r]
    have e : some (if i < k then some (D.int (lo + i)) else none) = some none := e
    have e := Option.some.inj e
    by_cases q : i < k
    · rw [if_pos q] at e; cases e
    · exact Nat.le_of_not_lt q
  | lst a =>
    have e : ((h.f a).bind O.items).map (fun xs => xs[i]?) = some none := e
    cases q : (h.f a).bind O.items with
    | none => rw [q] at e; cases e
    | some xs =>
      rw [q] at e
      have e : xs[i]? = none := Option.some.inj e
      obtain ⟨ys, s, r1⟩ := g.sqL q
      rw [r.2]
      exact ⟨ys, s, by rw [r1.length]; exact List.getElem?_eq_none_iff.mp e⟩
theorem ItRel.item (g : Good K Z h ρ H) (r : ItRel K Z h.n ρ H it J) {i : Nat} {d : D} (e : it.at i h = some (some d)) : J.go i H ∧ ∀ x H', J.yld i H x H' → H' = H ∧ RelD K Z h.n ρ H d x := by
  cases it with
  | fix xs =>
    obtain ⟨a, ys, e1, s, r⟩ := r
    have e : some xs[i]? = some (some d) := e
    have e := Option.some.inj e
    obtain ⟨v, hv, rv⟩ := r.get e
    rw [e1]
    refine ⟨⟨ys, v, s, hv⟩, fun x H' y => ?_⟩
    obtain ⟨e2, y⟩ := y
    have e3 := y ys s
    rw [hv] at e3
    cases e3
    exact ⟨e2, rv⟩
  | rng lo k =>
    have r : J = Itr lo k := r
    rw [r]
    have e : some (if i < k then some (D.int (lo + i)) else none) = some (some d) := e
    have e := Option.some.inj e
    by_cases q : i < k
    · rw [if_pos q] at e
      cases e
      refine ⟨q, fun x H' y => ?_⟩
      obtain ⟨e2, y⟩ := y
      exact ⟨e2, relD_int.mpr y⟩
    · rw [if_neg q] at e; cases e
  | lst a =>
    have e : ((h.f a).bind O.items).map (fun xs => xs[i]?) = some (some d) := e
    cases q : (h.f a).bind O.items with
    | none => rw [q] at e; cases e
    | some xs =>
      rw [q] at e
      have e : xs[i]? = some d := Option.some.inj e
      obtain ⟨ys, s, r1⟩ := g.sqL q
      obtain ⟨v, hv, rv⟩ := r1.get e
      rw [r.2]
      refine ⟨⟨ys, v, s, hv⟩, fun x H' y => ?_⟩
      obtain ⟨e2, y⟩ := y
      have e3 := y ys s
      rw [hv] at e3
      cases e3
      exact ⟨e2, rv⟩
end

section
variable {X : Cx} {Z : Ad} {T : Tab} {cl : Nat → List D → Hh → R D} {W : WX} {pos : Pos} {tg : Expr}
abbrev tSrc (X : Cx) (Z : Ad) (T : Tab) (cl : Nat → List D → Hh → R D) (W : WX) (s : Src) : TI := tG X.K Z (ItRel X.K Z) W (evalSrc T cl s)
theorem pi_mono {l : Expr} {t t' : TI} (h : PI X tg l t) (i : ∀ σ H Q, t' σ H Q → t σ H Q) : PI X tg l t' := ⟨fun pins s σ H Q I q => h.run pins s σ H Q I (i σ H Q q)⟩
theorem pi_stuck {l : Expr} : PI X tg l (tSrc X Z T cl W .stuck) := ⟨fun _ _ _ _ _ _ h => by obtain ⟨_, _, _, _, _, s⟩ := h; exact s.elim⟩
/-- a list or a tuple -/
def iSeq (K : PySem.W.Frag) (tl : TE) : TI := fun σ H R => tl σ H fun x H1 => ∃ a, x = .ref a ∧ (((∃ xs, SqL K H1 a xs) ∧ R (Itl K a) H1) ∨ ((∃ xs, SqT K H1 a xs) ∧ R (Itt K a) H1))
theorem pi_seq {l : Expr} {tl : TE} (hl : PE X l tl) : PI X tg l (iSeq X.K tl) := by
  refine ⟨fun pins s σ H R I h => ?_⟩
  refine thn (hl.run pins s σ H _ I h) fun v s1 q => ?_
  obtain ⟨x, H1, I1, r1, a, e, c⟩ := q
  subst e
  cases r1
  have fresh : ∀ b ∈ [s1.heap.objs.size], FpOk X pins H1 b := fun b hb => by
    rw [List.mem_singleton.mp hb]
    exact I1.fpOk (Nat.le_refl _) (I1.hok.fresh (Nat.le_refl _))
  rcases c with ⟨⟨xs, hq⟩, q⟩ | ⟨⟨xs, hq⟩, q⟩
  · obtain ⟨its, rv, p, hz⟩ := I1.list hq
    exact wpAny_pyIter_list p.isList ⟨_, _, _, _, H1, rfl, I1.kept (t' := s1.toks) (fun b o e => Heap.get?_push_of_some _ e), turn_list a _, ⟨_, Heap.get?_push_size _ rfl, rfl, rfl⟩, fresh, q⟩
  · obtain ⟨its, rv, p, hz⟩ := I1.tuple hq
    exact wpAny_pyIter_tuple (show s1.heap.IsTuple a its.toArray from p) ⟨_, _, _, _, H1, rfl, I1.kept (t' := s1.toks) (fun b o e => Heap.get?_push_of_some _ e), turn_tuple a _, ⟨_, Heap.get?_push_size _ rfl, rfl, rfl⟩, fresh, q⟩
theorem pi_nVal {l : Expr} {e : E} (hl : PE X l (tE X Z T cl W e)) : PI X tg l (tSrc X Z T cl W (.val e)) :=
  pi_mono (pi_seq hl) fun σ H Rr h => by
    obtain ⟨ρ, σI, h0, g, rs, s⟩ := tG.bind (rel1 := RelD X.K Z) (e := evalE T cl e) (k := fun _ d h1 => match d with
      | .tup xs => R.ok (It.fix xs) h1
      | .ref a => match seqOf h1 (.ref a) with
        | some _ => R.ok (It.lst a) h1
        | none => R.bad
      | _ => R.bad) h
    refine ⟨ρ, σI, h0, g, rs, s.mono (fun v H1 q => ?_) fun _ _ _ q => q⟩
    obtain ⟨ρ1, σ1, h1, d, g1, rs1, rd, s1⟩ := q
    cases d with
    | tup xs =>
      obtain ⟨a, ys, e1, sq, r1⟩ := relD_tup.mp rd
      exact ⟨a, e1, .inr ⟨⟨ys, sq⟩, s1 ρ1 H1 _ Ext.refl g1 ⟨a, ys, rfl, sq, r1⟩⟩⟩
    | ref a =>
      obtain ⟨ha, e1⟩ := relD_ref.mp rd
      have s1 : Sat X.K Z (ItRel X.K Z) h1.n ρ1 H1 (match seqOf h1 (.ref a) with
        | some _ => R.ok (It.lst a) h1
        | none => R.bad) Rr (fun c d H' => W c d σ H') := s1
      cases q : seqOf h1 (.ref a) with
      | none => rw [q] at s1; exact s1.elim
      | some xs =>
        rw [q] at s1
        obtain ⟨ys, sq, r1⟩ := g1.sqL q
        exact ⟨_, e1, .inl ⟨⟨ys, sq⟩, s1 ρ1 H1 _ Ext.refl g1 ⟨ha, rfl⟩⟩⟩
    | non => exact s1.elim
    | bl b => exact s1.elim
    | int i => exact s1.elim
    | str x => exact s1.elim
    | cls c => exact s1.elim
theorem pi_nRng1 {a : Expr} {e : E} {p : Pos} (hg : Gl X "range") (hm : X.mg "range" = none) (ha : PE X a (tE X Z T cl W e)) (hs : starEach [a] X.env = [(false, eval a X.env)]) : PI X tg (.Call (.Name "range" p) [a] [] pos) (tSrc X Z T cl W (.rng1 e)) :=
  pi_mono (pi_range1 hg hm (pa_cons ha pa_nil hs) hs) fun σ H Rr h => by
    obtain ⟨ρ, σI, h0, g, rs, s⟩ := tG.bind (rel1 := RelD X.K Z) (e := evalE T cl e) (k := fun _ d h1 => match d with
      | .int j => if -(2 ^ 62) ≤ j ∧ j < 2 ^ 62 then R.ok (It.rng 0 j.toNat) h1 else R.bad
      | _ => R.bad) h
    refine ⟨ρ, σI, h0, g, rs, s.mono (fun v H1 q => ?_) fun _ _ _ q => q⟩
    obtain ⟨ρ1, σ1, h1, d, g1, rs1, rd, s1⟩ := q
    cases d with
    | int j =>
      have s1 : Sat X.K Z (ItRel X.K Z) h1.n ρ1 H1 (if -(2 ^ 62) ≤ j ∧ j < 2 ^ 62 then R.ok (It.rng 0 j.toNat) h1 else R.bad) Rr (fun c d H' => W c d σ H') := s1
      by_cases hz : -(2 ^ 62) ≤ j ∧ j < 2 ^ 62
      · rw [if_pos hz] at s1
        exact ⟨j, by rw [relD_int.mp rd], hz.1, hz.2, s1 ρ1 H1 _ Ext.refl g1 rfl⟩
      · rw [if_neg hz] at s1; exact s1.elim
    | tup xs => exact s1.elim
    | ref a => exact s1.elim
    | non => exact s1.elim
    | bl b => exact s1.elim
    | str x => exact s1.elim
    | cls c => exact s1.elim
theorem pi_nRng2 {a b : Expr} {e e' : E} {p : Pos} (hg : Gl X "range") (hm : X.mg "range" = none) (ha : PE X a (tE X Z T cl W e)) (hb : PE X b (tE X Z T cl W e')) (hs : starEach [a, b] X.env = [(false, eval a X.env), (false, eval b X.env)]) (hs2 : starEach [b] X.env = [(false, eval b X.env)]) :
    PI X tg (.Call (.Name "range" p) [a, b] [] pos) (tSrc X Z T cl W (.rng2 e e')) :=
  pi_mono (pi_range2 hg hm (pa_cons ha (pa_cons hb pa_nil hs2) (by rw [hs, hs2])) hs hs2) fun σ H Rr h => by
    obtain ⟨ρ, σI, h0, g, rs, s⟩ := tG.bind (rel1 := RelD X.K Z) (e := evalE T cl e) (k := fun σ d h1 => (evalE T cl e' σ h1).bind fun d' h2 => match d, d' with
      | .int i, .int j => if (-(2 ^ 62) ≤ i ∧ i < 2 ^ 62) ∧ (-(2 ^ 62) ≤ j ∧ j < 2 ^ 62) then R.ok (It.rng i (j - i).toNat) h2 else R.bad
      | _, _ => R.bad) h
    refine ⟨ρ, σI, h0, g, rs, s.mono (fun v H1 q => ?_) fun _ _ _ q => q⟩
    obtain ⟨ρ1, σ1, h1, d, g1, rs1, rd, s1⟩ := Mid.bind (rel0 := RelD X.K Z) (rel1 := RelD X.K Z) (e := fun σ _ h1 => evalE T cl e' σ h1) (k := fun _ d d' h2 => match d, d' with
      | .int i, .int j => if (-(2 ^ 62) ≤ i ∧ i < 2 ^ 62) ∧ (-(2 ^ 62) ≤ j ∧ j < 2 ^ 62) then R.ok (It.rng i (j - i).toNat) h2 else R.bad
      | _, _ => R.bad) (fun _ _ _ _ _ _ _ _ x r => RelD.ext x r) q
    refine ⟨ρ1, σ1, h1, g1, rs1, s1.mono (fun v2 H2 q => ?_) fun _ _ _ q => q⟩
    obtain ⟨ρ2, h2, d2, g2, rs2, rd0, rd2, s2⟩ := q
    cases d with
    | int i =>
      cases d2 with
      | int j =>
        have s2 : Sat X.K Z (ItRel X.K Z) h2.n ρ2 H2 (if (-(2 ^ 62) ≤ i ∧ i < 2 ^ 62) ∧ (-(2 ^ 62) ≤ j ∧ j < 2 ^ 62) then R.ok (It.rng i (j - i).toNat) h2 else R.bad) Rr (fun c d H' => W c d σ H') := s2
        by_cases hz : (-(2 ^ 62) ≤ i ∧ i < 2 ^ 62) ∧ (-(2 ^ 62) ≤ j ∧ j < 2 ^ 62)
        · rw [if_pos hz] at s2
          exact ⟨i, j, by rw [relD_int.mp rd0, relD_int.mp rd2], ⟨hz.1.1, hz.1.2, hz.2.1, hz.2.2⟩, s2 ρ2 H2 _ Ext.refl g2 rfl⟩
        · rw [if_neg hz] at s2; exact s2.elim
      | tup xs => exact s2.elim
      | ref a => exact s2.elim
      | non => exact s2.elim
      | bl b => exact s2.elim
      | str x => exact s2.elim
      | cls c => exact s2.elim
    | tup xs => exact s2.elim
    | ref a => exact s2.elim
    | non => exact s2.elim
    | bl b => exact s2.elim
    | str x => exact s2.elim
    | cls c => exact s2.elim

/-! ### for -/
theorem ps_nFor {iter : Expr} {body : List Stmt} {src : Src} {g : G} {b : Ss} (hp : PassesOwn (model X.prog X.w) X.A X.env X.xe) (hc : X.calm = true) (hi : PI X tg iter (tSrc X Z T cl W src)) (hg : PG X tg (tGt X Z T cl g)) (hb : PSs X body (tXs X Z T cl W b))
    (hs : ∀ x, foldedSetIterable iter X.env x = pure x) : PS X (.For tg iter body [] pos) (tX X Z T cl W (.for_ g src b)) :=
  ps_mono (ps_for hp hc hi hg hb hs) fun D σ H h => by
    obtain ⟨step, hstep⟩ : ∃ step : Pyi.D → St → Hh → SR, step = fun d σ1 h2 => SR.of (R.of (store T cl g d σ1 h2)) σ1 fun σ2 h3 => execs T cl b σ2 h3 := ⟨_, rfl⟩
    have h : tS X.K Z W (fun σ h => SR.of (evalSrc T cl src σ h) σ fun it h1 => forLoop step it turns 0 σ h1) D σ H := by rw [hstep]; exact h
    obtain ⟨ρ, σI, h0, g0, rs, s⟩ := tS.of (rel := ItRel X.K Z) (e := evalSrc T cl src) (k := fun σ it h1 => forLoop step it turns 0 σ h1) h
    refine ⟨ρ, σI, h0, g0, rs, s.mono (fun J H1 q => ?_) fun _ _ _ q => q⟩
    obtain ⟨ρ1, σ1, h1, it, g1, rs1, ri, s1⟩ := q
    refine ⟨fun i m σ H => ∃ ρ σI h, Good X.K Z h ρ H ∧ RelS X.K Z h.n ρ H σI σ ∧ ItRel X.K Z h.n ρ H it J ∧ SSat X.K Z h.n ρ H (forLoop step it m i σI h) D W, ⟨turns, ρ1, σ1, h1, g1, rs1, ri, s1⟩, ?_⟩
    rintro i m σ H ⟨ρ, σI, h, g0, rs, ri, s⟩
    cases m with
    | zero => exact s.elim
    | succ m =>
      have s : SSat X.K Z h.n ρ H (match it.at i h with
        | none => .bad
        | some none => .next σI h
        | some (some d) => match step d σI h with
          | .next σ1 h1 => forLoop step it m (i + 1) σ1 h1
          | .cnt σ1 h1 => forLoop step it m (i + 1) σ1 h1
          | .brk σ1 h1 => .next σ1 h1
          | .ret d h1 => .ret d h1
          | .exc c fs σ1 h1 => .exc c fs σ1 h1
          | .bad => .bad) D W := s
      cases e : it.at i h with
      | none => rw [e] at s; exact s.elim
      | some o =>
        cases o with
        | none =>
          rw [e] at s
          exact .inl ⟨ri.stop g0 e, s ρ H σ Ext.refl g0 rs⟩
        | some d =>
          rw [e] at s
          obtain ⟨go, yl⟩ := ri.item g0 e
          refine .inr ⟨go, fun σ H => ∃ ρ σI h, Good X.K Z h ρ H ∧ RelS X.K Z h.n ρ H σI σ ∧ ItRel X.K Z h.n ρ H it J ∧ SSat X.K Z h.n ρ H (forLoop step it m (i + 1) σI h) D W, fun σ' H' q => ⟨m, Nat.lt_succ_self _, q⟩, fun x H' y => ?_⟩
          obtain ⟨e2, rd⟩ := yl x H' y
          subst e2
          simp only at s
          cases e3 : store T cl g d σI h with
          | none =>
            have z : step d σI h = .bad := by rw [hstep]; show SR.of (R.of (store T cl g d σI h)) _ _ = _; rw [e3]; rfl
            rw [z] at s
            exact s.elim
          | some p =>
            have z : step d σI h = execs T cl b p.1 p.2 := by rw [hstep]; show SR.of (R.of (store T cl g d σI h)) _ _ = _; rw [e3]; rfl
            rw [z] at s
            refine ⟨ρ, σI, h, d, g0, rs, rd, p.1, p.2, e3, fun ρ2 H2 σ2 x2 g2 r2 _ => ⟨ρ2, p.1, p.2, g2, r2, ?_⟩⟩
            have ri2 := ri.ext x2
            have s := SSat.ext x2 s
            cases e4 : execs T cl b p.1 p.2 with
            | next σ3 h3 =>
              rw [e4] at s
              exact fun ρ3 H3 σ4 x3 g3 r3 => ⟨ρ3, σ3, h3, g3, r3, ri2.ext x3, SSat.ext x3 s⟩
            | cnt σ3 h3 =>
              rw [e4] at s
              exact fun ρ3 H3 σ4 x3 g3 r3 => ⟨ρ3, σ3, h3, g3, r3, ri2.ext x3, SSat.ext x3 s⟩
            | brk σ3 h3 => rw [e4] at s; exact s
            | ret d3 h3 => rw [e4] at s; exact s
            | exc c fs σ3 h3 => rw [e4] at s; exact s
            | bad => rw [e4] at s; exact s
theorem ps_nWhile {t : Expr} {body : List Stmt} {et : E} {b : Ss} (hp : PassesOwn (model X.prog X.w) X.A X.env X.xe) (ht : PT X t (tT X Z T cl W et)) (hb : PSs X body (tXs X Z T cl W b)) : PS X (.While t body [] pos) (tX X Z T cl W (.while_ et b)) :=
  ps_mono (ps_while hp ht hb) fun D σ H h => by
    obtain ⟨ρ, σI, h0, g0, rs, s⟩ := h
    refine ⟨fun m σ H => ∃ ρ σI h, Good X.K Z h ρ H ∧ RelS X.K Z h.n ρ H σI σ ∧ SSat X.K Z h.n ρ H (whileLoop (evalT T cl et) (execs T cl b) m σI h) D W, ⟨turns, ρ, σI, h0, g0, rs, s⟩, ?_⟩
    rintro m σ H ⟨ρ, σI, h, g0, rs, s⟩
    cases m with
    | zero => exact s.elim
    | succ m =>
      obtain ⟨ρ1, σ1, h1, g1, rs1, s1⟩ := tS.of (rel := relB) (e := evalT T cl et) (k := fun σ t h1 => if t then (match execs T cl b σ h1 with
        | .next σ1 h2 => whileLoop (evalT T cl et) (execs T cl b) m σ1 h2
        | .cnt σ1 h2 => whileLoop (evalT T cl et) (execs T cl b) m σ1 h2
        | .brk σ1 h2 => .next σ1 h2
        | .ret d h2 => .ret d h2
        | .exc c fs σ1 h2 => .exc c fs σ1 h2
        | .bad => .bad) else .next σ h1) (show tS X.K Z W (whileLoop (evalT T cl et) (execs T cl b) (m + 1)) D σ H from ⟨ρ, σI, h, g0, rs, s⟩)
      refine ⟨ρ1, σ1, h1, g1, rs1, s1.mono (fun c H2 q => ?_) fun _ _ _ q => q⟩
      obtain ⟨ρ2, σ2, h2, d, g2, rs2, rd, s2⟩ := q
      have rd : c = d := rd
      subst rd
      cases c with
      | false => exact s2 ρ2 H2 σ Ext.refl g2 rs2
      | true =>
        refine ⟨fun σ H => ∃ ρ σI h, Good X.K Z h ρ H ∧ RelS X.K Z h.n ρ H σI σ ∧ SSat X.K Z h.n ρ H (whileLoop (evalT T cl et) (execs T cl b) m σI h) D W, fun σ' H' q => ⟨m, Nat.lt_succ_self _, q⟩, ρ2, σ2, h2, g2, rs2, ?_⟩
        have s2 : SSat X.K Z h2.n ρ2 H2 (match execs T cl b σ2 h2 with
          | .next σ1 h2 => whileLoop (evalT T cl et) (execs T cl b) m σ1 h2
          | .cnt σ1 h2 => whileLoop (evalT T cl et) (execs T cl b) m σ1 h2
          | .brk σ1 h2 => .next σ1 h2
          | .ret d h2 => .ret d h2
          | .exc c fs σ1 h2 => .exc c fs σ1 h2
          | .bad => .bad) D W := s2
        cases e4 : execs T cl b σ2 h2 with
        | next σ3 h3 =>
          rw [e4] at s2
          exact fun ρ3 H3 σ4 x3 g3 r3 => ⟨ρ3, σ3, h3, g3, r3, SSat.ext x3 s2⟩
        | cnt σ3 h3 =>
          rw [e4] at s2
          exact fun ρ3 H3 σ4 x3 g3 r3 => ⟨ρ3, σ3, h3, g3, r3, SSat.ext x3 s2⟩
        | brk σ3 h3 => rw [e4] at s2; exact s2
        | ret d3 h3 => rw [e4] at s2; exact s2
        | exc c fs σ3 h3 => rw [e4] at s2; exact s2
        | bad => rw [e4] at s2; exact s2
end
end Pyi
set_option Elab.async false
set_option linter.all false
set_option maxRecDepth 100000
set_option maxHeartbeats 1000000
/-! List comprehensions. -/
namespace Pyi
open PySem L2

section
variable {K : PySem.W.Frag} {Z : Ad} {n : Nat} {ρ : Nat → Addr} {H : Hp}
theorem RelS.del {σI : St} {σ : L2.St} (rs : RelS K Z n ρ H σI σ) (v : Nat) : RelS K Z n ρ H (σI.set v none) (σ.set v none) := by
  refine ⟨by rw [List.length_set, List.length_set]; exact rs.1, fun i d e => ?_⟩
  by_cases q : v = i
  · subst q
    by_cases hv : v < σI.length
    · rw [List.getElem?_set_self hv] at e; cases e
    · rw [List.getElem?_eq_none (by simpa using hv)] at e; cases e
  · rw [List.getElem?_set_ne q] at e
    obtain ⟨u, e1, r⟩ := rs.2 i d e
    exact ⟨u, by rw [List.getElem?_set_ne q]; exact e1, r⟩
theorem RelS.wiped {σI : St} {σ : L2.St} (rs : RelS K Z n ρ H σI σ) : ∀ vs : List Nat, RelS K Z n ρ H (wipe σI vs) (L2.wipe σ vs)
  | [] => rs
  | v :: vs => (RelS.wiped rs vs).del v
end
theorem set_none_ext {σ σ' : L2.St} (hl : σ'.length = σ.length) (vs : List Nat) (h : ∀ j : Nat, j ∉ vs → σ'[j]? = σ[j]?) : L2.wipe σ' vs = L2.wipe σ vs := by
  have get : ∀ (τ : L2.St) (vs : List Nat) (j : Nat), (L2.wipe τ vs)[j]? = if j ∈ vs then (if j < τ.length then some none else none) else τ[j]? := by
    intro τ vs
    induction vs with
    | nil => intro j; simp [L2.wipe]
    | cons v vs ih =>
      intro j
      unfold L2.wipe
      by_cases q : v = j
      · subst q
        rw [if_pos List.mem_cons_self]
        by_cases hv : v < τ.length
        · rw [if_pos hv, List.getElem?_set_self (by rw [L2.wipe_length]; exact hv)]
        · rw [if_neg hv, List.getElem?_eq_none (by rw [List.length_set, L2.wipe_length]; omega)]
      · rw [List.getElem?_set_ne q, ih j]
        by_cases m : j ∈ vs
        · rw [if_pos m, if_pos (List.mem_cons_of_mem _ m)]
        · rw [if_neg m, if_neg (fun z => by rcases List.mem_cons.mp z with e | e; exact q e.symm; exact m e)]
  apply List.ext_getElem?
  intro j
  rw [get, get, hl]
  by_cases m : j ∈ vs
  · rw [if_pos m, if_pos m]
  · rw [if_neg m, if_neg m, h j m]
theorem wipe_wipe (σ : L2.St) (vs : List Nat) : L2.wipe (L2.wipe σ vs) vs = L2.wipe σ vs := by
  apply set_none_ext (L2.wipe_length σ vs)
  intro j hj
  induction vs with
  | nil => rfl
  | cons v vs ih =>
    unfold L2.wipe
    rw [List.mem_cons, not_or] at hj
    rw [List.getElem?_set_ne (fun e => hj.1 e.symm)]
    exact ih hj.2
theorem tame_ok {α : Type} {r : R α} {a : α} {h : Hh} (e : r.tame = .ok a h) : r = .ok a h := by
  cases r with
  | ok a' h' => exact e
  | exc c fs h' => cases e
  | bad => cases e

section
variable {X : Cx} {Z : Ad} {T : Tab} {cl : Nat → List D → Hh → R D} {W : WX} {pos : Pos} {tg : Expr}
abbrev tCs (X : Cx) (Z : Ad) (T : Tab) (cl : Nat → List D → Hh → R D) (W : WX) (cs : Es) : TT := tIb X.K Z W (evalCs T cl cs)
theorem tLc_of {own : List Nat} {src : Src} {g : G} {cs : Es} {e : E} (hsl : ∀ i ∈ g.slots, i ∈ own) {σ : L2.St} {H : Hp} {Q : VK} (h : tI X.K Z W (evalE T cl (.comp own g src cs e)) σ H Q) :
    tLc (tSrc X Z T cl W src) (tGt X Z T cl g) (tCs X Z T cl W0 cs) (tE X Z T cl W0 e) own σ H Q := by
  obtain ⟨ρ, σI, h0, g0, rs, s⟩ := tG.bind (rel1 := ItRel X.K Z) (e := evalSrc T cl src) (k := fun σ it h1 => compLoop (compStep (store T cl g) (evalCs T cl cs) (evalE T cl e) (wipe σ own)) it h1.n turns 0 (h1.new (.lst []))) h
  refine ⟨ρ, σI, h0, g0, rs, s.mono (fun J H1 q => ?_) fun _ _ _ q => q⟩
  obtain ⟨ρ1, σ1, h1, it, g1, rs1, ri, s1⟩ := q
  intro D hD
  obtain ⟨step, hstep⟩ : ∃ step : Pyi.D → Hh → R (Option Pyi.D), step = compStep (store T cl g) (evalCs T cl cs) (evalE T cl e) (wipe σ1 own) := ⟨_, rfl⟩
  have s1 : Sat X.K Z (RelD X.K Z) h1.n ρ1 H1 (compLoop step it h1.n turns 0 (h1.new (.lst []))) Q (fun c d H' => W c d σ H') := by rw [hstep]; exact s1
  obtain ⟨dd, hdd⟩ : ∃ dd, dd = h1.n := ⟨_, rfl⟩
  rw [← hdd] at s1
  obtain ⟨x2, g2, r2⟩ := g1.newLst hD (relDs_nil.mpr (rfl : ([] : List V) = []))
  refine ⟨fun i m H => ∃ ρ h, Good X.K Z h ρ H ∧ RelS X.K Z h.n ρ H (wipe σ1 own) (L2.wipe σ own) ∧ ItRel X.K Z h.n ρ H it J ∧ dd < h.n ∧ ρ dd = D ∧ Sat X.K Z (RelD X.K Z) h.n ρ H (compLoop step it dd m i h) Q (fun c d H' => W c d σ H'),
    ⟨turns, _, _, g2, RelS.ext x2 (RelS.wiped rs1 own), ri.ext x2, by rw [hdd]; exact Nat.lt_succ_self _, by rw [hdd, bump_self], Sat.ext (rel1 := RelD X.K Z) x2 (by rw [hdd]; rw [hdd] at s1; exact s1)⟩, ?_⟩
  rintro i m H ⟨ρ, h, g0, rs, ri, hd, eD, s⟩
  cases m with
  | zero => exact s.elim
  | succ m =>
    have s : Sat X.K Z (RelD X.K Z) h.n ρ H (match it.at i h with
      | none => .bad
      | some none => .ok (.ref dd) h
      | some (some d) => (step d h).bind (compPut dd (compLoop step it dd m (i + 1)))) Q (fun c d H' => W c d σ H') := s
    cases e0 : it.at i h with
    | none => rw [e0] at s; exact s.elim
    | some o =>
      cases o with
      | none =>
        rw [e0] at s
        exact .inl ⟨ri.stop g0 e0, s ρ H _ Ext.refl g0 (relD_ref.mpr ⟨hd, by rw [eD]⟩)⟩
      | some d =>
        rw [e0] at s
        have s : Sat X.K Z (RelD X.K Z) h.n ρ H ((step d h).bind (compPut dd (compLoop step it dd m (i + 1)))) Q (fun c d H' => W c d σ H') := s
        obtain ⟨go, yl⟩ := ri.item g0 e0
        refine .inr ⟨go, fun H => ∃ ρ h, Good X.K Z h ρ H ∧ RelS X.K Z h.n ρ H (wipe σ1 own) (L2.wipe σ own) ∧ ItRel X.K Z h.n ρ H it J ∧ dd < h.n ∧ ρ dd = D ∧ Sat X.K Z (RelD X.K Z) h.n ρ H (compLoop step it dd m (i + 1) h) Q (fun c d H' => W c d σ H'),
          fun H' q => ⟨m, Nat.lt_succ_self _, q⟩, fun x H' y => ?_⟩
        obtain ⟨e2, rd⟩ := yl x H' y
        subst e2
        rw [hstep] at s
        unfold compStep at s
        cases e3 : store T cl g d (wipe σ1 own) h with
        | none => rw [e3] at s; exact s.elim
        | some p =>
          rw [e3] at s
          refine ⟨ρ, wipe σ1 own, h, d, g0, rs, rd, p.1, p.2, e3, fun ρ2 H2 σ2 x2 g2 r2 fr => ⟨?_, ?_⟩⟩
          · rw [set_none_ext (σ := L2.wipe σ own) fr.1 own (fun j hj => fr.2 j (fun z => hj (hsl j z)))]
            exact wipe_wipe σ own
          · have s := Sat.ext (rel1 := RelD X.K Z) x2 s
            have rs2 := RelS.ext x2 rs
            have ri2 := ri.ext x2
            have hd2 : dd < p.2.n := Nat.lt_of_lt_of_le hd x2.le
            have eD2 : ρ2 dd = D := by rw [x2.eq dd hd]; exact eD
            refine ⟨ρ2, p.1, p.2, g2, r2, ?_⟩
            have s : Sat X.K Z (RelD X.K Z) p.2.n ρ2 H2 (((evalCs T cl cs p.1 p.2).tame.bind fun t h4 => if t then (evalE T cl e p.1 h4).tame.bind fun v h5 => .ok (some v) h5 else .ok none h4).bind (compPut dd (compLoop step it dd m (i + 1)))) Q (fun c d H' => W c d σ H') := by rw [hstep]; exact s
            cases e4 : evalCs T cl cs p.1 p.2 with
            | bad => rw [e4] at s; exact s.elim
            | exc c fs h4 => rw [e4] at s; exact s.elim
            | ok t h4 =>
              rw [e4] at s
              intro ρ3 H3 b x3 g3 eb
              have eb : b = t := eb
              subst eb
              have s := Sat.ext (rel1 := RelD X.K Z) x3 s
              have rs3 := RelS.ext x3 rs2
              have ri3 := ri2.ext x3
              have hd3 : dd < h4.n := Nat.lt_of_lt_of_le hd2 x3.le
              have eD3 : ρ3 dd = D := by rw [x3.eq dd hd2]; exact eD2
              cases b with
              | false => exact ⟨ρ3, h4, g3, rs3, ri3, hd3, eD3, s⟩
              | true =>
                refine ⟨ρ3, p.1, h4, g3, RelS.ext x3 r2, ?_⟩
                have s : Sat X.K Z (RelD X.K Z) h4.n ρ3 H3 (((evalE T cl e p.1 h4).tame.bind fun v h5 => .ok (some v) h5).bind (compPut dd (compLoop step it dd m (i + 1)))) Q (fun c d H' => W c d σ H') := s
                cases e5 : evalE T cl e p.1 h4 with
                | bad => rw [e5] at s; exact s.elim
                | exc c fs h5 => rw [e5] at s; exact s.elim
                | ok v h5 =>
                  rw [e5] at s
                  intro ρ4 H4 y x4 g4 ry
                  have s := Sat.ext (rel1 := RelD X.K Z) x4 s
                  have hd4 : dd < h5.n := Nat.lt_of_lt_of_le hd3 x4.le
                  have eD4 : ρ4 dd = D := by rw [x4.eq dd hd3]; exact eD3
                  have s : Sat X.K Z (RelD X.K Z) h5.n ρ4 H4 (match h5.f dd with
                    | some (.lst acc) => if acc.length < sizeLine then compLoop step it dd m (i + 1) (h5.put dd (.lst (acc ++ [v]))) else .bad
                    | _ => .bad) Q (fun c d H' => W c d σ H') := s
                  split at s
                  · rename_i acc ha
                    by_cases hz : acc.length < sizeLine
                    · rw [if_pos hz] at s
                      obtain ⟨ys, hy, ry2⟩ := g4.lst ha
                      rw [eD4] at hy
                      refine ⟨ys, hy, by rw [ry2.length]; exact hz, ?_⟩
                      obtain ⟨x5, g5⟩ := g4.putLst ha (ry2.append (relDs_cons.mpr ⟨y, [], rfl, ry, relDs_nil.mpr rfl⟩))
                      rw [eD4] at x5 g5
                      exact ⟨ρ4, _, g5, RelS.ext (x4.trans x5) rs3, ri3.ext (x4.trans x5), hd4, eD4, Sat.ext (rel1 := RelD X.K Z) x5 s⟩
                    · rw [if_neg hz] at s; exact s.elim
                  · exact s.elim
/-- tests of a clause: none or one -/
theorem pts_nNil : PTs X [] (tCs X Z T cl W .nil) := ⟨fun pins s σ H Q I h => pts_nil.run pins s σ H Q I (by
  obtain ⟨ρ, σI, h0, g0, rs, s⟩ := h
  exact s ρ H true Ext.refl g0 rfl)⟩
theorem pts_nOne {c : Expr} {e : E} (h : PT X c (tT X Z T cl W e)) : PTs X [c] (tCs X Z T cl W (.cons e .nil)) := ⟨fun pins s σ H Q I hw => (pts_one h).run pins s σ H Q I (by
  obtain ⟨ρ, σI, h0, g0, rs, s⟩ := tG.bind (rel1 := relB) (e := evalT T cl e) (k := fun σ t h1 => if t then R.ok true h1 else R.ok false h1) hw
  refine ⟨ρ, σI, h0, g0, rs, s.mono (fun c H1 q => ?_) fun _ _ _ q => q⟩
  obtain ⟨ρ1, σ1, h1, d, g1, rs1, rd, s1⟩ := q
  have rd : c = d := rd
  subst rd
  cases c with
  | true => exact s1 ρ1 H1 true Ext.refl g1 rfl
  | false => exact s1 ρ1 H1 false Ext.refl g1 rfl)⟩
theorem pe_nComp {elt iter : Expr} {ifs : List Expr} {scope : Scope} {own : List (Str × Nat)} {src : Src} {g : G} {cs : Es} {e : E} (hsl : ∀ i ∈ g.slots, i ∈ own.map (·.2)) (hc : X.calm = true) (hN : X.N.Nodup) (hi : PI X tg iter (tSrc X Z T cl W src)) (ok : BlkOk X.N X.env.scope scope own)
    (hg : ∀ (s : Shared) (H : Hp) (C : Addr) (ce : List (Str × Addr)) (fp : List Addr), PG (X.blk s H scope (compEnvC scope ce C X.env) fp) tg (tGt X Z T cl g))
    (ht : ∀ (s : Shared) (H : Hp) (C : Addr) (ce : List (Str × Addr)) (fp : List Addr), PTs (X.blk s H scope (compEnvC scope ce C X.env) fp) ifs (tCs X Z T cl W0 cs))
    (he : ∀ (s : Shared) (H : Hp) (C : Addr) (ce : List (Str × Addr)) (fp : List Addr), PE (X.blk s H scope (compEnvC scope ce C X.env) fp) elt (tE X Z T cl W0 e)) (hs : ∀ x, foldedSetIterable iter X.env x = pure x) :
    PE X (.ListComp elt [⟨tg, iter, ifs, 0⟩] scope pos) (tE X Z T cl W (.comp (own.map (·.2)) g src cs e)) :=
  pe_mono (pe_lc hc hN hi ok hg ht he hs) fun σ H Q h => tLc_of hsl h
theorem ps_nSetComp {i : Nat} {y : Str} {py spos : Pos} {elt iter : Expr} {ifs : List Expr} {scope : Scope} {own : List (Str × Nat)} {src : Src} {g : G} {cs : Es} {e : E} (hsl : ∀ i ∈ g.slots, i ∈ own.map (·.2)) (hc : X.calm = true) (hN : X.N.Nodup) (hy : X.N[i]? = some y) (hyl : X.env.scope.names.lookup y = some .local)
    (hsw : swapsWith (.ListComp elt [⟨tg, iter, ifs, 0⟩] scope pos) (some (.Name y py)) spos.line X.env = pure true) (hi : PI X tg iter (tSrc X Z T cl W src)) (ok : BlkOk X.N X.env.scope scope own)
    (hg : ∀ (s : Shared) (H : Hp) (C : Addr) (ce : List (Str × Addr)) (fp : List Addr), PG (X.blk s H scope (compEnvC scope ce C X.env) fp) tg (tGt X Z T cl g))
    (ht : ∀ (s : Shared) (H : Hp) (C : Addr) (ce : List (Str × Addr)) (fp : List Addr), PTs (X.blk s H scope (compEnvC scope ce C X.env) fp) ifs (tCs X Z T cl W0 cs))
    (he : ∀ (s : Shared) (H : Hp) (C : Addr) (ce : List (Str × Addr)) (fp : List Addr), PE (X.blk s H scope (compEnvC scope ce C X.env) fp) elt (tE X Z T cl W0 e)) (hs : ∀ x, foldedSetIterable iter X.env x = pure x) :
    PS X (.Assign [.Name y py] (.ListComp elt [⟨tg, iter, ifs, 0⟩] scope pos) spos) (tX X Z T cl W (.asg (.name i) (.comp (own.map (·.2)) g src cs e))) :=
  ps_mono (ps_setLc hc hN hy hyl hsw hi ok hg ht he hs) fun De σ H h => by
    refine tLc_of (X := X) hsl ?_
    obtain ⟨ρ, σI, h0, g0, rs, s⟩ := tS.of (rel := RelD X.K Z) (e := evalE T cl (.comp (own.map (·.2)) g src cs e)) (k := fun σ d h1 => SR.of (R.of (store T cl (.name i) d σ h1)) σ fun σ1 h2 => SR.next σ1 h2) h
    refine ⟨ρ, σI, h0, g0, rs, s.mono (fun v H1 q => ?_) fun _ _ _ q => q⟩
    obtain ⟨ρ1, σ1, h1, d, g1, rs1, rd, s1⟩ := q
    exact s1 ρ1 H1 _ Ext.refl g1 (RelS.set rs1 rd)
end
end Pyi
set_option Elab.async false
set_option linter.all false
set_option maxRecDepth 100000
set_option maxHeartbeats 1000000
namespace Pyi
open PySem L2
/-- parameters that are all given by place, no defaults, no stars -/
def plainArgs (p : Arguments) : Bool := p.posonlyargs.isEmpty && p.kwonlyargs.isEmpty && p.vararg.isNone && p.kwarg.isNone
theorem lookup_zip : ∀ {ns : List Str} {us : List Value} {i : Nat} {x : Str} {u : Value}, ns.Nodup → ns[i]? = some x → us[i]? = some u → (ns.zip us).lookup x = some u
  | [], _, _, _, _, _, h, _ => by simp at h
  | _ :: _, [], _, _, _, _, _, h => by simp at h
  | n :: ns, w :: us, 0, x, u, nd, h1, h2 => by
    simp at h1 h2
    subst h1 h2
    simp [List.zip_cons_cons, List.lookup]
  | n :: ns, w :: us, i + 1, x, u, nd, h1, h2 => by
    have h1' : ns[i]? = some x := by simpa using h1
    have h2' : us[i]? = some u := by simpa using h2
    have ne : (x == n) = false := by
      rw [beq_eq_false_iff_ne]
      rintro rfl
      exact (List.nodup_cons.mp nd).1 (List.mem_of_getElem? h1')
    rw [List.zip_cons_cons, List.lookup_cons, ne]
    exact lookup_zip (List.nodup_cons.mp nd).2 h1' h2'
theorem zip_self : ∀ {ns : List Str} {us : List Value}, ns.Nodup → us.length = ns.length → ns.filterMap (fun n => ((ns.zip us).lookup n).map (n, ·)) = ns.zip us := by
  intro ns us nd hl
  have key : ∀ (k : Nat) (ms : List Str) (ws : List Value), ns.drop k = ms → us.drop k = ws → ms.filterMap (fun n => ((ns.zip us).lookup n).map (n, ·)) = ms.zip ws := by
    intro k ms
    induction ms generalizing k with
    | nil => intro ws _ _; rfl
    | cons m ms ih =>
      intro ws h1 h2
      have hk : k < ns.length := by
        apply Classical.byContradiction
        intro q
        rw [List.drop_eq_nil_of_le (by omega)] at h1
        cases h1
      have e1 : ns[k]? = some m := by
        rw [← List.head?_drop, h1]
        rfl
      obtain ⟨u, hu⟩ : ∃ u, us[k]? = some u := ⟨us[k]'(by omega), by simp⟩
      have h2' : ws = u :: us.drop (k + 1) := by
        rw [← h2, List.drop_eq_getElem_cons (by omega)]
        congr
        have := List.getElem?_eq_some_iff.mp hu
        exact this.2
      have h1' : ns.drop (k + 1) = ms := by
        rw [← List.tail_drop, h1]
        rfl
      rw [List.filterMap_cons, lookup_zip nd e1 hu, h2']
      show (m, u) :: _ = (m, u) :: _
      rw [ih (k + 1) _ h1' rfl]
      rfl
  exact key 0 ns us rfl rfl
theorem binds_fd {fd : FuncData} {po as ko : List Arg} {va ka : Option Arg} {kd : List (Option Expr)} {df : List Expr} {us : List Value} (h1 : fd.params = ⟨po, as, va, ko, kd, ka, df⟩) (h2 : fd.defaults = .none)
    (hp : plainArgs ⟨po, as, va, ko, kd, ka, df⟩ = true) (nd : (as.map (·.arg)).Nodup) (hl : us.length = (as.map (·.arg)).length) : bindArgs fd ⟨us, []⟩ = pure ((as.map (·.arg)).zip us) := by
  simp only [plainArgs, Bool.and_eq_true, List.isEmpty_iff, Option.isNone_iff_eq_none] at hp
  obtain ⟨⟨⟨rfl, rfl⟩, rfl⟩, rfl⟩ := hp
  have hmiss : ((as.map (·.arg)).filter fun n => (((as.map (·.arg)).zip us).lookup n).isNone) = [] := by
    rw [List.filter_eq_nil_iff]
    intro n hn
    obtain ⟨i, hi⟩ := List.getElem?_of_mem hn
    have hlt : i < us.length := by
      have := (List.getElem?_eq_some_iff.mp hi).1
      omega
    rw [lookup_zip nd hi (show us[i]? = some us[i] by simp [hlt])]
    simp
  unfold bindArgs
  have hs : seqItems? Value.none = pure none := rfl
  have hz := zip_self nd hl
  simp only [h1, h2, List.map_nil, List.nil_append, List.append_nil, hl, hs, pure_bind]
  generalize hns : List.map (fun x => Arg.arg x) as = ns at *
  simp [hmiss, hz]
end Pyi
set_option Elab.async false
set_option linter.all false
set_option maxRecDepth 100000
set_option maxHeartbeats 1000000
/-! Defs: the promise of a def's interpreter, its call. -/
namespace Pyi
open PySem L2

/-- the world of a law: what stays through all contexts -/
structure Wo where
  P : Program
  w : World
  K : PySem.W.Frag
  mg : Str → Option Value
  base : Heap
  Z : Ad
/-- what a def of the interpreter promises -/
def spI (K : PySem.W.Frag) (Z : Ad) (f : List D → Hh → R D) : Sp := fun vs H Q E =>
  ∃ ρ h ds, Good K Z h ρ H ∧ RelDs K Z h.n ρ H ds vs ∧ Sat K Z (RelD K Z) h.n ρ H (f ds h) Q E
/-- a def runs as the interpreter does: n: how deep it calls -/
def FnG (O : Wo) (n : Nat) (a : Addr) (np : Nat) (f : List D → Hh → R D) : Prop :=
  ∀ (A : Around) (fr : List Env) (s : Shared) (H : Hp) (us : List Value) (vs : List V) (Q : VK) (E : XK), A.guards = some [] → Room n A → Env0 O.P O.w O.K O.mg O.base A fr s H → Vals vs us → spI O.K O.Z f vs H Q E →
    codeAny (model O.P O.w) A (.call (.ref a) ⟨us, []⟩) (CR (CX O.P O.w) fr O.P O.w H s Q E) s

theorem Vals.len {vs : List V} {us : List Value} (r : Vals vs us) : us.length = vs.length := r.length.symm

/-- the context of a body -/
abbrev cxB (O : Wo) (N : List Str) (qual : Str) (sc : Scope) (a : Addr) (cdv : Value) (A : Around) (fr : List Env) (s : Shared) (H : Hp) (E : XK) : Cx :=
  cxOf (CX O.P O.w) O.P O.w O.K O.mg O.base N qual sc a cdv A fr s H E
theorem takes_cxB {O : Wo} {N : List Str} {qual : Str} {sc : Scope} {a : Addr} {cdv : Value} {A : Around} {fr : List Env} {s : Shared} {H : Hp} {E : XK} : Takes (cxB O N qual sc a cdv A fr s H E) (fun c d _ H => E c d H) :=
  takes_of rfl rfl rfl rfl
theorem owns_cxB {O : Wo} {N : List Str} {qual : Str} {sc : Scope} {a : Addr} {cdv : Value} {A : Around} {fr : List Env} {s : Shared} {H : Hp} {E : XK} :
    PassesOwn (model O.P O.w) (cxB O N qual sc a cdv A fr s H E).A (cxB O N qual sc a cdv A fr s H E).env (cxB O N qual sc a cdv A fr s H E).xe := passes_of (X := cxB O N qual sc a cdv A fr s H E) rfl

theorem relS_start {K : PySem.W.Frag} {Z : Ad} {n : Nat} {ρ : Nat → Addr} {H : Hp} {ds : List D} {vs : List V} {N : List Str} (r : RelDs K Z n ρ H ds vs) : RelS K Z n ρ H (Pyi.start N.length ds) (L2.start N vs) := by
  unfold Pyi.start L2.start
  refine ⟨by simp [r.length], fun i d e => ?_⟩
  by_cases q : i < ds.length
  · rw [List.getElem?_append_left (by simpa using q), List.getElem?_map] at e
    cases e1 : ds[i]? with
    | none => rw [e1] at e; cases e
    | some d' =>
      rw [e1] at e
      cases e
      obtain ⟨v, hv, rv⟩ := r.get e1
      have q' : i < vs.length := by rw [r.length]; exact q
      exact ⟨v, by rw [List.getElem?_append_left (by simpa using q'), List.getElem?_map, hv]; rfl, rv⟩
  · rw [List.getElem?_append_right (by simpa using q), List.getElem?_replicate] at e
    split at e <;> cases e

theorem fnG_of {O : Wo} {n : Nat} {a : Addr} {name qual : Str} {pr : Arguments} {body : List Stmt} {sc : Scope} {kV doc pm cdv ct oc : Value} {an od : Option Addr} {osl : Array (Option Value)} {N ps : List Str} {T : Tab} {cl : Nat → List D → Hh → R D} {b : Ss} {q : Fn}
    (lk : O.K.lookup a = some ⟨oc, od, .func (PySem.W.fnOf name qual pr body sc .none kV doc pm an cdv ct), osl⟩) (hcd : PySem.W.codeIn O.K cdv qual = true) (S : FnScope N ps sc) (hq : q = ⟨ps.length, N.length, b⟩)
    (hb : ∀ us : List Value, us.length = ps.length → bindArgs (PySem.W.fnOf name qual pr body sc .none kV doc pm an cdv ct) ⟨us, []⟩ = pure (ps.zip us))
    (hbody : ∀ (A : Around) (fr : List Env) (s : Shared) (H : Hp) (E : XK), A.guards = some [] → Room n (cxB O N qual sc a cdv A fr s H E).A → PSs (cxB O N qual sc a cdv A fr s H E) body (tS O.K O.Z (fun c d _ H => E c d H) (execs T cl b))) :
    FnG O (n + 1) a ps.length (runFn T cl q) := by
  subst hq
  intro A fr s H us vs Q E hgd hr e0 r ⟨ρ, h, ds, g, rd, sat⟩
  have lds : ds.length = ps.length := by
    unfold runFn at sat
    split at sat
    · assumption
    · exact sat.elim
  have lvs : vs.length = ps.length := by rw [rd.length]; exact lds
  have lus : us.length = ps.length := by rw [Vals.len r]; exact lvs
  have sat : Sat O.K O.Z (RelD O.K O.Z) h.n ρ H (match execs T cl b (start N.length ds) h with
    | .next _ h1 => .ok .non h1
    | .ret d h1 => .ok d h1
    | .exc c fs _ h1 => .exc c fs h1
    | .brk _ _ => .bad
    | .cnt _ _ => .bad
    | .bad => .bad) Q E := by
    unfold runFn at sat
    rw [if_pos lds] at sat
    exact sat
  have kin : O.K.In s.heap := e0.mod.kin.keeps fun b o e => (e0.bs b o e).1
  have nol : s.heap.NoLimit := e0.mod.nolimit.keeps fun b o e => (e0.bs b o e).1
  have kinds : ∀ y ∈ ps.zip us, sc.names.lookup y.1 = some .local ∨ (sc.names.lookup y.1 = some .cell ∧ ((cellsFrom (s.heap.objs.size + 1) sc.names []).lookup y.1).isSome = true) := by
    rintro ⟨y, u⟩ hy
    cases S.par y (List.of_mem_zip hy).1 with
    | inl z => exact Or.inl z
    | inr z => exact Or.inr ⟨z, PySem.W.cellsFrom_some _ _ _ (Or.inl z)⟩
  apply codeAny_call_function hr.depth (kin _ _ lk) rfl S.co S.gen rfl (PySem.W.codeRec_of kin hcd)
  apply BindsTo.of_eq (hb us lus)
  apply wpAny_newFunctionEnv_cells S.kind kinds
  rintro env rfl s1 ic
  refine ⟨nol.keeps ic.toInCall.keep, codeAny_func ?_⟩
  have J : Inv (cxB O N qual sc a cdv A fr s H E) [] (L2.start N vs) H s1 := inv_start S hr.hd e0 lvs r ic
  refine wpAny_mono ((hbody A fr s H E hgd (hr.deeper _)).run [] s1 _ H { nx := fun _ H' => Q .non H', rt := Q } J ⟨ρ, _, h, g, relS_start rd, ?_⟩) (fun fl s' hs => ?_) fun e s' hs => hs
  · cases e : execs T cl b (start N.length ds) h with
    | next σ1 h1 => rw [e] at sat; exact fun ρ1 H1 σ2 x g1 r1 => sat ρ1 H1 .non x g1 (relD_non.mpr rfl)
    | brk σ1 h1 => rw [e] at sat; exact sat.elim
    | cnt σ1 h1 => rw [e] at sat; exact sat.elim
    | ret d h1 => rw [e] at sat; exact sat
    | exc c fs σ1 h1 => rw [e] at sat; exact fun ρ1 H1 σ2 cls d x g1 r1 rx => sat ρ1 H1 cls d x g1 rx
    | bad => rw [e] at sat; exact sat.elim
  · have fin : ∀ {σ' : L2.St} {H' : Hp} {v : V} {u : Value}, Inv (cxB O N qual sc a cdv A fr s H E) [] σ' H' s' → RelV v u → Q v H' → CE fr O.P O.w H s Q u s' := fun J rv q => ⟨_, _, J.os, J.bare, J.base, J.hok, rv, q⟩
    cases fl with
    | ret u => obtain ⟨v, σ', H', J, rv, q⟩ := hs; exact fin J rv q
    | next => obtain ⟨σ', H', J, q⟩ := hs; exact fin (v := .non) (u := .none) J rfl q
    | brk => obtain ⟨_, _, _, q⟩ := hs; exact q.elim
    | cont => obtain ⟨_, _, _, q⟩ := hs; exact q.elim
end Pyi
set_option Elab.async false
set_option linter.all false
set_option maxRecDepth 100000
set_option maxHeartbeats 1000000
namespace Pyi
open PySem L2
abbrev woOf (X : Cx) (Z : Ad) : Wo := ⟨X.prog, X.w, X.K, X.mg, X.base, Z⟩
section
variable {X : Cx} {Z : Ad} {T : Tab} {cl : Nat → List D → Hh → R D} {W : WX} {pos pf : Pos} {n f np : Nat} {a : Addr} {x : Str}
theorem run_fnG {pins : List (Addr × Obj)} {σ : L2.St} {H : Hp} {s : Shared} {Q : VK} {us : List Value} {vs : List V} {g : List D → Hh → R D} (F : FnG (woOf X Z) n a np g) (hgd : X.A.guards = some []) (hr : Room n X.A) (tk : Takes X W) (I : Inv X pins σ H s) (r : Vals vs us)
    (h : spI X.K Z g vs H Q (fun c d H' => W c d σ H')) : wpAny (model X.prog X.w) X.A (call (.ref a) us) (EP X pins σ Q) X.xe s := by
  apply wpAny_call
  refine codeAny_mono (F X.A X.stack s H us vs Q (fun c d H' => W c d σ H') hgd hr I.env0 r h) fun res s' hq => ?_
  match res, hq with
  | .error e, hq => exact tk e s' (XE.of_call I (fun _ _ _ h => h) hq)
  | .ok (.ret u), hq => exact I.after hq
theorem mid_call {es : Es} {σ : L2.St} {H : Hp} {Q : VK} (h : tE X Z T cl W (.call f es) σ H Q) : tEs X Z T cl W es σ H (fun vs H1 => spI X.K Z (cl f) vs H1 Q (fun c d H' => W c d σ H')) := by
  obtain ⟨ρ, σI, h0, g, rs, s⟩ := tG.bind (rel1 := RelDs X.K Z) (e := evalEs T cl es) (k := fun _ ds h1 => cl f ds h1) h
  refine ⟨ρ, σI, h0, g, rs, s.mono (fun v H1 q => ?_) fun _ _ _ q => q⟩
  obtain ⟨ρ1, σ1, g1, ds, G1, _, rd, s1⟩ := q
  exact ⟨ρ1, g1, ds, G1, rd, s1⟩
theorem pe_nCall {e : Expr} {es : List Expr} {ei : Es} (F : FnG (woOf X Z) n a np (cl f)) (hgd : X.A.guards = some []) (hr : Room n X.A) (tk : Takes X W) (hg : Gl X x) (hm : X.mg x = some (.ref a)) (hk : PySem.W.keepIn X.K (.ref a) = true) (hdb : (x == ("__debug__" : Str)) = false)
    (ha : PA X (e :: es) (tEs X Z T cl W ei)) (he : starEach (e :: es) X.env = (false, eval e X.env) :: starEach es X.env) (hpl : (backTo pos (starEach es X.env)).any (·.1) = false) : PE X (.Call (.Name x pf) (e :: es) [] pos) (tE X Z T cl W (.call f ei)) := by
  constructor
  intro pins s σ H Q I h
  apply wpAny_Call_Name_kw
  refine ld_glob I hg hm ?_ hdb
  refine PySem.W.callWith_K I.ok.mod.kin hk ?_ he hpl
  refine thn (ha.run pos pins s σ H _ I (mid_call h)) fun us s1 q => ?_
  obtain ⟨vs, H1, I1, r, q⟩ := q
  exact ⟨I1.kIn, run_fnG F hgd hr tk I1 r q⟩
theorem pe_nCall0 (F : FnG (woOf X Z) n a np (cl f)) (hgd : X.A.guards = some []) (hr : Room n X.A) (tk : Takes X W) (hg : Gl X x) (hm : X.mg x = some (.ref a)) (hk : PySem.W.keepIn X.K (.ref a) = true) (hdb : (x == ("__debug__" : Str)) = false) :
    PE X (.Call (.Name x pf) [] [] pos) (tE X Z T cl W (.call f .nil)) := by
  constructor
  intro pins s σ H Q I h
  apply wpAny_Call_Name_kw
  refine ld_glob I hg hm ?_ hdb
  exact PySem.W.callWith_K0 I.kIn hk (run_fnG (us := []) F hgd hr tk I .nil (tIs_nil (mid_call h)))
end
end Pyi
set_option Elab.async false
set_option linter.all false
set_option maxRecDepth 100000
set_option maxHeartbeats 4000000
/-! Own exceptions, over any built-in base: stores, super().__init__. -/
namespace Pyi
open PySem PySem.W PySem.Calls PyProof.Rows PySem.Builtin PySem.Builtin.ObjectAttr
/-- a built-in base -/
structure ExB (B nw ini : String) (bmB : List Value) : Prop where
  fb : ExcBaseFacts B nw ini bmB
  st : StoreFacts B bmB "object.__setattr__" "object"
  kf : KxsFacts B ini
theorem exB_V : ExB "ValueError" "ValueError.__new__" "ValueError.__init__" [.type "ValueError", .type "Exception", .type "BaseException", .type "object"] := ⟨PySem.F.excBase_ValueError, PySem.F.store_ValueError, kxs_ValueError⟩
theorem exB_L : ExB "LookupError" "LookupError.__new__" "LookupError.__init__" [.type "LookupError", .type "Exception", .type "BaseException", .type "object"] := ⟨PySem.F.excBase_LookupError, PySem.F.store_LookupError, kxs_LookupError⟩

section
variable {prog : Program} {w : World} {A : Around} {R : Result → Shared → Prop} {hp : Heap} {g : Array GenState} {dr : Drawn} {t : Nat} {os : OsState} {K : Frag} {nm : Str} {tk : Tok} {v : Value} {x C W : Addr} {cd : ClassData} {B nw ini : String} {bmB : List Value}
theorem pass_mro (b : ExB B nw ini bmB) (hm : cd.mro = .ref C :: .ref W :: bmB) (self : Value) : refuseLoop self "__setattr__" cd.mro = pure () := by
  rw [hm, refuseLoop_ref, refuseLoop_ref]
  exact b.st.passes self
theorem obj_mro (b : ExB B nw ini bmB) (hm : cd.mro = .ref C :: .ref W :: bmB) : cd.mro.contains (.type "object") = true := by
  rw [hm, List.contains_cons, List.contains_cons, b.st.hasOwner, Bool.or_true, Bool.or_true]
/-- to the own dict -/
theorem osaG {ox : Obj} {od : Option Obj} (b : ExB B nw ini bmB) (kin : K.In hp) (ix : InstAt hp x ox C od) (hcd : clsIn K C = some cd) (hm : cd.mro = .ref C :: .ref W :: bmB) (ha : findIn K (.ref C) nm = some none)
    (hq : wpAny (model prog w) A.in1 (storeInOwnDict (.ref x) (.ref C) (.str nm tk) nm v false)
      (fun fin s' => match fin with | .done f => R (.ok f) s' | .again c' => c'.quiet = true ∧ codeAny (model prog w) A c' R s') (fun e s' => R (.error e) s') ⟨hp, g, dr, t, os⟩) :
    codeAny (model prog w) A (.call (.builtin "object.__setattr__") ⟨[.ref x, .str nm tk, v], []⟩) R ⟨hp, g, dr, t, os⟩ := by
  have so := PySem.F.store_object
  have ne : ¬ (cd.mro.isEmpty = true) := by rw [hm]; exact Bool.false_ne_true
  have hsub : Looks (model prog w) hp (isInstance (.ref x) (.type "object")) true := ix.type.andThen (looks_mroIn kin (by unfold mroIn; rw [hcd, Option.bind_some, if_neg ne, obj_mro b hm]))
  apply codeAny_call_builtin so.slot.plain so.entry
  apply @check_slot (model prog w) _ _ ⟨hp, g, dr, t, os⟩ "object.__setattr__" "object" "__setattr__" (.ref x) [.str nm tk, v] [] _ so.kind so.split hsub (so.args (.ref x) (.str nm tk) v)
  have lm : Looks (model prog w) hp (mroOf (.ref C)) cd.mro := (looks_clsIn kin hcd).andThen .now
  have ln : Looks (model prog w) hp (storeTaker? none) none := .now
  rw [osa_eq, refuse_eq]
  apply wpAny_bind
  apply wpAny_bind
  refine ix.type.at ?_
  apply wpAny_bind
  refine lm.at ?_
  rw [pass_mro b hm]
  apply wpAny_pure
  apply wpAny_bind
  refine ix.type.at ?_
  apply wpAny_bind
  refine (looks_findIn kin ha).at ?_
  apply wpAny_bind
  exact ln.at hq
theorem osaG_new {fv : Array Value} (b : ExB B nw ini bmB) (kin : K.In hp) (hx : hp.get? x = some { cls := .ref C, data := .fields fv }) (hcd : clsIn K C = some cd) (hm : cd.mro = .ref C :: .ref W :: bmB) (hh : cd.hasDict = true) (ha : findIn K (.ref C) nm = some none)
    (hq : ∀ h' tk' dx, (∀ b o, b ≠ x → hp.get? b = some o → h'.get? b = some o) → hp.objs.size ≤ dx → dx ≠ x → h'.get? x = some { cls := .ref C, dict := some dx, data := .fields fv } →
      h'.Ns1 dx (fun y => if y = nm then some v else none) → R (.ok (.ret .none)) ⟨h', g, dr, tk', os⟩) :
    codeAny (model prog w) A (.call (.builtin "object.__setattr__") ⟨[.ref x, .str nm tk, v], []⟩) R ⟨hp, g, dr, t, os⟩ := by
  have ix : InstAt hp x { cls := .ref C, data := .fields fv } C none := ⟨hx, rfl, rfl, trivial⟩
  have nx : x ≠ hp.objs.size := Nat.ne_of_lt (Heap.lt_size hx)
  apply osaG b kin ix hcd hm ha
  have lc : Looks (model prog w) hp (classData C) cd := looks_clsIn kin hcd
  obtain ⟨n1, b1, m1, n2, q1, hd, s1, s2, a1, c1, d1⟩ := cd
  replace hh : hd = true := hh
  subst hh
  unfold storeInOwnDict ownDictForStores
  repeat (first | with_reducible refine HandSPX.store_in_new ?_ ?_ | with_reducible refine wpAny_loadPart_at hx ?_ | with_reducible refine lc.at ?_ | wp_step)
  · have dd : (hp.push { cls := .type "dict", data := .dict #[] }).get? hp.objs.size = some { cls := .type "dict", data := .dict #[] } := Heap.get?_push_at rfl rfl
    exact ⟨_, #[], _, (Heap.get?_update_ne _ _ _ _ (Ne.symm nx)).trans dd, rfl, fun e he => absurd he (by simp), fun _ => rfl⟩
  · intro h' tk' hn sb
    have up : (hp.push { cls := .type "dict", data := .dict #[] }).get? x = some { cls := .ref C, data := .fields fv } := Heap.get?_push_of_some _ hx
    refine hq h' tk' hp.objs.size ?_ (Nat.le_refl _) nx.symm ((sb.2 x nx).trans (Heap.get?_update_self _ up rfl)) hn
    intro b o hb ho
    rw [sb.2 b (Nat.ne_of_lt (Heap.lt_size ho)), Heap.get?_update_ne _ _ _ _ hb]
    exact Heap.get?_push_of_some _ ho
theorem osaG_old {fv : Array Value} {dx : Addr} {m0 : Str → Option Value} {nl : List Str} (b : ExB B nw ini bmB) (kin : K.In hp) (hx : hp.get? x = some { cls := .ref C, dict := some dx, data := .fields fv }) (hns : hp.Ns1 dx m0) (hw : Within m0 nl) (hz : nl.length ≤ 1000)
    (hcd : clsIn K C = some cd) (hm : cd.mro = .ref C :: .ref W :: bmB) (hh : cd.hasDict = true) (ha : findIn K (.ref C) nm = some none)
    (hq : ∀ h' tk', (∀ b o, b ≠ dx → hp.get? b = some o → h'.get? b = some o) → h'.Ns1 dx (fun y => if y = nm then some v else m0 y) → R (.ok (.ret .none)) ⟨h', g, dr, tk', os⟩) :
    codeAny (model prog w) A (.call (.builtin "object.__setattr__") ⟨[.ref x, .str nm tk, v], []⟩) R ⟨hp, g, dr, t, os⟩ := by
  obtain ⟨oD, _, _, hoD, _, _⟩ := hns.count hw
  have ix : InstAt hp x { cls := .ref C, dict := some dx, data := .fields fv } C (some oD) := ⟨hx, rfl, rfl, hoD⟩
  apply osaG b kin ix hcd hm ha
  have lc : Looks (model prog w) hp (classData C) cd := looks_clsIn kin hcd
  obtain ⟨n1, b1, m1, n2, q1, hd, s1, s2, a1, c1, d1⟩ := cd
  replace hh : hd = true := hh
  subst hh
  unfold storeInOwnDict ownDictForStores
  repeat (first | with_reducible refine OEX.store_in_old hns hw hz ?_ | with_reducible refine wpAny_loadPart_at hx ?_ | with_reducible refine lc.at ?_ | wp_step)
  intro h' tk' hn sb
  exact hq h' tk' (fun b o hb ho => (sb.2 b hb).trans ho) hn
/-- the bound __init__ called -/
theorem callG {u e t0 N : Addr} {n1 q : Str} {bs bm : List Value} {hdct : Bool} {sn : List Str} {sub : List Value} {ab : Bool} {col : Option Bool} {dd : Option Addr} {k0 k1 k2 k3 k5 : Option Value} {rest : List Value} {E : Value → Shared → Prop} {Q : Value → Shared → Prop} (b : ExB B nw ini bmB)
    (hC : hp.get? C = some (excClassObj n1 q C N bs bm hdct sn sub ab col dd k0 k1 k2 k3 k5 nw)) (he : hp.get? e = some ({ cls := .ref C, dict := none, data := .fields #[.ref t0, .none, .none, .none, .bool false, .none] } : Obj)) (hu : hp.get? u = some (kxs_mw ini e)) (hz : rest.length ≤ sizeLine)
    (hq : ∀ h' t1, (∀ b o, b ≠ e → hp.get? b = some o → h'.get? b = some o) → h'.get? e = some ({ cls := .ref C, dict := none, data := .fields #[.ref t1, .none, .none, .none, .bool false, .none] } : Obj) → Q .none ⟨h', g, dr, t, os⟩) :
    wpAny (model prog w) A (call (.ref u) rest) Q E ⟨hp, g, dr, t, os⟩ := by
  apply wpAny_call
  apply codeAny_of_tree
  show wpAny _ A.in1 (callAny (.ref u) ⟨rest, []⟩) _ _ _
  simp only [callAny]
  apply wpAny_bind
  refine wpAny_load hu ?_
  simp only [kxs_mw, show (Value.type "method-wrapper" == Value.type "method" || Value.type "method-wrapper" == Value.type "builtin_function_or_method" || Value.type "method-wrapper" == Value.type "method-wrapper") = true by decide, if_true]
  apply KFB.if_so (by decide)
  apply wpAny_bind
  refine check_bound_init b.fb.toExcCallFacts hC he rfl ?_
  refine wpAny_bind (wpAny_pure (wpAny_pure ⟨plainId_quiet b.fb.init.plain _, codeAny_builtin b.fb.initEntry ?_⟩))
  exact exc_init_tree (cls := .ref C) (t0 := t0) (dv := none) (c2 := .none) (c3 := .none) (b4 := .bool false) he hz fun h' k e' _ => hq h' _ k e'
end
end Pyi
set_option Elab.async false
set_option linter.all false
set_option maxRecDepth 100000
set_option maxHeartbeats 1000000
/-! repr, f-strings -/
namespace Pyi
open PySem L2
section
variable {X : Cx} {Z : Ad} {pins : List (Addr × Obj)} {σ : L2.St} {H : Hp} {s : Shared} {h : Hh} {ρ : Nat → Addr} {d : D} {v : V} {u : Value} {t : Str} {A : Around} {Q : Value → Shared → Prop} {E : Value → Shared → Prop}
theorem lenD_some {k : Nat} {p : PyData} (e : lenD h d = some (p, k)) : data 40 h d = some p ∧ p.showable = true ∧ p.shown.length ≤ k ∧ k ≤ sizeLine ∧ p.depth ≤ 40 ∧ p.hasDict = false := by
  unfold lenD at e
  split at e
  · rename_i q hp
    split at e
    · rename_i hc
      cases e
      simp only [Bool.and_eq_true] at hc
      obtain ⟨a, b, c⟩ := shown_le _ hc.1.1
      exact ⟨hp, b, a, Nat.le_of_ble_eq_true hc.1.2, Nat.le_of_ble_eq_true hc.2, c⟩
    · cases e
  · cases e
theorem showR_some (e : showR h d = some t) : ∃ p, data 40 h d = some p ∧ p.showable = true ∧ p.shown.length ≤ sizeLine ∧ p.depth ≤ 40 ∧ p.hasDict = false ∧ t = p.shown := by
  unfold showR at e
  cases q : lenD h d with
  | none => rw [q] at e; cases e
  | some r =>
    rw [q] at e
    cases e
    obtain ⟨a, b, c, d', e', f⟩ := lenD_some (k := r.2) (p := r.1) q
    exact ⟨r.1, a, b, Nat.le_trans c d', e', f, rfl⟩
/-- what a repr gives -/
theorem reprObj_ok (I : Inv X pins σ H s) (g : Good X.K Z h ρ H) (rd : RelD X.K Z h.n ρ H d v) (ru : RelV v u) (e : showR h d = some t) (hg : A.guards = some []) (hu : A.units + 60 < cLine)
    (hq : ∀ h' tk tk', (∀ b o, s.heap.get? b = some o → h'.get? b = some o) → Q (.str t tk) { s with heap := h', toks := tk' }) : wpAny (model X.prog X.w) A (pyReprObj u) Q E s := by
  obtain ⟨p, hp, h1, h2, h3, h4, rfl⟩ := showR_some e
  obtain ⟨as, rr⟩ := Dp.reads I p v u (data_dp g 40 hp rd) ru
  have k0 : ∀ b o, s.heap.get? b = some o → s.heap.get? b = some o := fun _ _ e => e
  cases rr with
  | none => exact pyReprObj_none (hq s.heap _ _ k0)
  | bool b => exact pyReprObj_bool (hq s.heap _ _ k0)
  | int i t => exact pyReprObj_int (by simpa [PyData.showable] using h1) (hq s.heap _ _ k0)
  | str x t => exact pyReprObj_str (hq s.heap _ _ k0) (by simpa only [PyData.shown] using h2)
  | list a b c d => exact pyReprObj_of_reads (.list a b c d) h1 (fun z => by rw [h4] at z; cases z) hg (by omega) k0 (fun h' tk tk' k => hq h' tk tk' k) h2
  | tuple a b c d => exact pyReprObj_of_reads (.tuple a b c d) h1 (fun z => by rw [h4] at z; cases z) hg (by omega) k0 (fun h' tk tk' k => hq h' tk tk' k) h2
  | dict a b c d f => exact pyReprObj_of_reads (.dict a b c d f) h1 (fun z => by rw [h4] at z; cases z) hg (by omega) k0 (fun h' tk tk' k => hq h' tk tk' k) h2
theorem reprCall_ok (I : Inv X pins σ H s) (g : Good X.K Z h ρ H) (rd : RelD X.K Z h.n ρ H d v) (ru : RelV v u) (e : showR h d = some t) (hg : A.guards = some []) (hu : A.units + 60 < cLine)
    (hq : ∀ h' tk tk', (∀ b o, s.heap.get? b = some o → h'.get? b = some o) → Q (.str t tk) { s with heap := h', toks := tk' }) : wpAny (model X.prog X.w) A (call (.builtin "repr") [u]) Q E s := by
  obtain ⟨p, hp, h1, h2, h3, h4, rfl⟩ := showR_some e
  obtain ⟨as, rr⟩ := Dp.reads I p v u (data_dp g 40 hp rd) ru
  have k0 : ∀ b o, s.heap.get? b = some o → s.heap.get? b = some o := fun _ _ e => e
  cases rr with
  | none => exact PySem.P.repr_of_none (hq s.heap _ _ k0)
  | bool b => exact PySem.P.repr_of_bool (hq s.heap _ _ k0)
  | int i t => exact PySem.P.repr_of_int (by simpa [PyData.showable] using h1) (hq s.heap _ _ k0)
  | str x t => exact PySem.P.repr_of_str (hq s.heap _ _ k0) (by simpa only [PyData.shown] using h2)
  | list a b c d => exact repr_of_reads' (.list a b c d) h1 (fun z => by rw [h4] at z; cases z) hg (by omega) k0 (fun h' tk tk' k => hq h' tk tk' k) h2
  | tuple a b c d => exact repr_of_reads' (.tuple a b c d) h1 (fun z => by rw [h4] at z; cases z) hg (by omega) k0 (fun h' tk tk' k => hq h' tk tk' k) h2
  | dict a b c d f => exact repr_of_reads' (.dict a b c d f) h1 (fun z => by rw [h4] at z; cases z) hg (by omega) k0 (fun h' tk tk' k => hq h' tk tk' k) h2
theorem fmt_ok (I : Inv X pins σ H s) (g : Good X.K Z h ρ H) (rd : RelD X.K Z h.n ρ H d v) (ru : RelV v u) (e : fmtD h d = some t) (hg : A.guards = some []) (hu : A.units + 60 < cLine)
    (hq : ∀ h' tk tk', (∀ b o, s.heap.get? b = some o → h'.get? b = some o) → Q (.str t tk) { s with heap := h', toks := tk' }) : wpAny (model X.prog X.w) A (formatField u Str.empty) Q E s := by
  have k0 : ∀ b o, s.heap.get? b = some o → s.heap.get? b = some o := fun _ _ e => e
  have go : showR h d = some t → (∃ a, u = .ref a) → wpAny (model X.prog X.w) A (formatField u Str.empty) Q E s := fun e hr => by
    obtain ⟨p, hp, h1, h2, h3, h4, rfl⟩ := showR_some e
    obtain ⟨as, rr⟩ := Dp.reads I p v u (data_dp g 40 hp rd) ru
    obtain ⟨a, rfl⟩ := hr
    exact formatField_of_reads rr h1 (fun z => by rw [h4] at z; cases z) hg (by omega) k0 (fun h' tk tk' k => hq h' tk tk' k) h2
  cases d with
  | str x =>
    have e : (if x.length ≤ sizeLine then some x else none) = some t := e
    split at e
    · rename_i hz
      cases e
      have := relD_str.mp rd
      subst this
      obtain ⟨tk, rfl⟩ := ru
      exact wpAny_formatField_str (hq s.heap _ _ k0) (hq s.heap _ _ k0) hz
    · cases e
  | int i =>
    have e : (if i.natAbs.log2 < 1920 then some ((toString i : String) : Str) else none) = some t := e
    split at e
    · rename_i hz
      cases e
      have := relD_int.mp rd
      subst this
      obtain ⟨tk, rfl⟩ := ru
      exact wpAny_formatField_int hz (hq s.heap _ _ k0)
    · cases e
  | tup xs =>
    obtain ⟨a, ys, ea, _⟩ := relD_tup.mp rd
    subst ea
    exact go e ⟨a, ru⟩
  | ref a =>
    obtain ⟨_, ea⟩ := relD_ref.mp rd
    subst ea
    exact go e ⟨_, ru⟩
  | non => cases e
  | bl b => cases e
  | cls c => cases e
end
section
variable {X : Cx} {Z : Ad} {pos pos' : Pos}
def at1 (f : Hh → D → Option Str) (i : Nat) (σI : St) (h : Hh) : Option Str := match σI[i]? with
  | some (some d) => f h d
  | _ => none
/-- a text that the interpreter tells; nothing is laid -/
def tM (K : PySem.W.Frag) (Z : Ad) (f : St → Hh → Option Str) : TE := fun σ H Q => ∃ ρ σI h t, Good K Z h ρ H ∧ RelS K Z h.n ρ H σI σ ∧ f σI h = some t ∧ Q (.str t) H
theorem pe_mRep {x : Str} {i : Nat} (hgd : X.A.guards = some []) (hu : X.A.units + 64 < cLine) (hN : X.N[i]? = some x) (hv : Vis X.env.scope x) (hd : (x == ("__debug__" : Str)) = false) (hcd : (x == ("__classdict__" : Str)) = false) :
    PE X (.FormattedValue (.Name x pos') 114 none pos) (tM X.K Z (at1 showR i)) := by
  refine ⟨fun pins s σ H Q I q => ?_⟩
  obtain ⟨ρ, σI, h, t, g, rs, e, hq⟩ := q
  apply wpAny_FormattedValue_repr
  unfold at1 at e
  split at e
  · rename_i d hd'
    obtain ⟨v, ev, rd⟩ := rs.2 i d hd'
    refine thn ((pe_var hN hv hd hcd).run pins s σ H (fun w H1 => w = v ∧ H1 = H) I ⟨v, ev, rfl, rfl⟩) fun u s1 ⟨w, H1, I1, ru, ew, eH⟩ => ?_
    subst ew eH
    refine reprObj_ok I1 g rd ru e hgd (by omega) fun h' tk tk' k => ?_
    have hz : t.length ≤ sizeLine := by
      obtain ⟨p, _, _, h2, _, _, rfl⟩ := showR_some e
      exact h2
    exact wpAny_formatField_str ⟨.str t, _, I1.kept k, ⟨_, rfl⟩, hq⟩ ⟨.str t, _, (I1.kept (t' := tk') k).tok _, ⟨_, rfl⟩, hq⟩ hz
  · cases e
theorem pe_mFmt {x : Str} {i : Nat} (hgd : X.A.guards = some []) (hu : X.A.units + 64 < cLine) (hN : X.N[i]? = some x) (hv : Vis X.env.scope x) (hd : (x == ("__debug__" : Str)) = false) (hcd : (x == ("__classdict__" : Str)) = false) :
    PE X (.FormattedValue (.Name x pos') (-1) none pos) (tM X.K Z (at1 fmtD i)) := by
  refine ⟨fun pins s σ H Q I q => ?_⟩
  obtain ⟨ρ, σI, h, t, g, rs, e, hq⟩ := q
  apply wpAny_FormattedValue_plain
  unfold at1 at e
  split at e
  · rename_i d hd'
    obtain ⟨v, ev, rd⟩ := rs.2 i d hd'
    refine thn ((pe_var hN hv hd hcd).run pins s σ H (fun w H1 => w = v ∧ H1 = H) I ⟨v, ev, rfl, rfl⟩) fun u s1 ⟨w, H1, I1, ru, ew, eH⟩ => ?_
    subst ew eH
    exact fmt_ok I1 g rd ru e hgd (by omega) fun h' tk tk' k => ⟨.str t, _, I1.kept k, ⟨_, rfl⟩, hq⟩
  · cases e
end
end Pyi
set_option Elab.async false
set_option linter.all false
set_option maxRecDepth 100000
set_option maxHeartbeats 4000000
/-! the __init__ of an own exception: its context, super().__init__(text) -/
namespace Pyi
open PySem L2
theorem lookup_rev {α : Type} : ∀ (l : List (Str × α)) (x : Str), (l.map (·.1)).Nodup → l.reverse.lookup x = l.lookup x
  | [], _, _ => rfl
  | (k, v) :: l, x, nd => by
    rw [List.map_cons, List.nodup_cons] at nd
    rw [List.reverse_cons, List.lookup_append, lookup_rev l x nd.2, List.lookup_cons]
    by_cases q : x = k
    · subst q
      have : l.lookup x = none := by
        rw [List.lookup_eq_none_iff]
        intro p hp
        simp
        rintro rfl
        exact nd.1 (List.mem_map.mpr ⟨p, hp, rfl⟩)
      rw [this]
      simp
    · have q' : (x == k) = false := by simpa using q
      rw [q']
      simp [List.lookup, q']
theorem zip_keys : ∀ (ns : List Str) (us : List Value), us.length = ns.length → (ns.zip us).map (·.1) = ns
  | [], _, _ => rfl
  | n :: ns, [], h => by simp at h
  | n :: ns, u :: us, h => by
    rw [List.zip_cons_cons, List.map_cons, zip_keys ns us (by simpa using h)]

/-- the context of such a body -/
def cxS (O : Wo) (N : List Str) (A : Around) (env : Env) (fr : List Env) (s : Shared) (H : Hp) (xe : Value → Shared → Prop) : Cx where
  prog := O.P
  w := O.w
  K := O.K
  mg := O.mg
  base := O.base
  A := A
  N := N
  s_0 := s
  H_0 := H
  env := env
  outer := fr
  stack := env :: fr
  ex := []
  fn := fun x => !(x == ("__class__" : Str))
  calm := true
  pn := []
  xe := xe
/-- the scope of such a body -/
structure SupSc (N : List Str) (sc : Scope) : Prop where
  kind : sc.kind = .function
  co : sc.isCoroutine = false
  gen : sc.isGenerator = false
  nd : N.Nodup
  par : ∀ x ∈ N, sc.names.lookup x = some .local
  cell : ∀ y ∈ sc.names, y.2 ≠ .cell
  free : ∀ y, sc.names.lookup y = some .free → y = ("__class__" : Str)
theorem inv_sup {O : Wo} {N : List Str} {qual : Str} {sc : Scope} {fI cc : Addr} {cdv : Value} {A : Around} {fr : List Env} {s : Shared} {h1 : Heap} {tk : Nat} {H : Hp} {xe : Value → Shared → Prop} {us : List Value} {vs : List V} {ccl : Value} {ccd : Option Addr} {cv : Option Value} {csl : Array (Option Value)}
    (S : SupSc N sc) (hd : A.handled = none) (e0 : Env0 O.P O.w O.K O.mg O.base A fr s H) (hl : vs.length = N.length) (r : Vals vs us) (hcell : O.K.lookup cc = some ⟨ccl, ccd, .cell cv, csl⟩)
    (hns : h1.Ns s.heap.objs.size (fun x => (N.zip us).reverse.lookup x)) (hk : ∀ b o, s.heap.get? b = some o → h1.get? b = some o) :
    Inv (cxS O N (A.deeper (PySem.W.ksEnv qual sc s.heap.objs.size fI cdv cc)) (PySem.W.ksEnv qual sc s.heap.objs.size fI cdv cc) fr s H xe) [] (vs.map some) H { s with heap := h1, toks := tk } := by
  have lus : us.length = N.length := by rw [Vals.len r]; exact hl
  have hcb : O.base.get? cc = some ⟨ccl, ccd, .cell cv, csl⟩ := e0.mod.kin _ _ hcell
  have cells : ∀ x c, List.lookup x [(("__class__" : Str), cc)] = some c → x = ("__class__" : Str) ∧ c = cc := fun x c e => by
    rw [List.lookup_cons] at e
    by_cases q : x = ("__class__" : Str)
    · subst q
      simp at e
      exact ⟨rfl, e.symm⟩
    · have q' : (x == ("__class__" : Str)) = false := by simpa using q
      rw [q'] at e
      cases e
  have ok : (cxS O N (A.deeper (PySem.W.ksEnv qual sc s.heap.objs.size fI cdv cc)) (PySem.W.ksEnv qual sc s.heap.objs.size fI cdv cc) fr s H xe).Ok := {
    mod := e0.mod
    kind := S.kind
    glob := rfl
    blt := rfl
    above := Nat.le_refl _
    inj := fun x y c e1 e2 => (cells x c e1).1.trans (cells y c e2).1.symm
    has := fun x hx => by
      rcases hx with hx | hx
      · exact absurd rfl (S.cell _ (PySem.mem_of_lookup hx))
      · exact ⟨cc, by rw [S.free x hx]; simp [PySem.W.ksEnv, cxS]⟩
    cab := fun x c hf e => by
      have z := (cells x c e).1
      subst z
      exact absurd hf (by simp [cxS])
    hd := fun _ => hd
    frames := Around.frames_deeper e0.frames
    stk := .inr ⟨rfl, rfl⟩
    exf := fun b hb => absurd (show b ∈ ([] : List Addr) from hb) (by simp)
    bs := e0.bs
    bsz := e0.bsz
    noex := fun b _ _ hb => absurd (show b ∈ ([] : List Addr) from hb) (by simp)
    exfs := fun b hb => absurd (show b ∈ ([] : List Addr) from hb) (by simp)
    funs := e0.funs
    frf := e0.frf }
  refine ⟨ok, rfl, e0.bare, Un.kept hk, ⟨_, hns, fun i y v h1 h2 h3 => ?_⟩, fun y c e => ?_, e0.hok.fresh (Nat.le_refl _), fun y c e => ?_, fun p hp => absurd (show p ∈ ([] : List (Addr × Obj)) from hp) (by simp), e0.hok.kept hk, ?_⟩
  · rw [List.getElem?_map] at h2
    cases ev : vs[i]? with
    | none => rw [ev] at h2; cases h2
    | some a =>
      rw [ev] at h2
      cases h2
      obtain ⟨u, hu, rv⟩ := r.get ev
      have h1 : N[i]? = some y := h1
      refine ⟨u, rv, .inl ⟨S.par y (List.mem_of_getElem? h1), ?_⟩⟩
      show (N.zip us).reverse.lookup y = some u
      rw [lookup_rev _ _ (by rw [zip_keys _ _ lus]; exact S.nd)]
      exact lookup_zip S.nd h1 hu
  · rw [(cells y c e).2]
    exact ⟨cv, ⟨_, hk _ _ (e0.bs _ _ hcb).1, rfl⟩⟩
  · rw [(cells y c e).2]
    exact (e0.bs _ _ hcb).2
  · show (vs.map some).length = N.length
    rw [List.length_map]
    exact hl

/-- what the written part says of an own exception class: C, above it W, above it the built-in B -/
structure ExK (K : PySem.W.Frag) (C W : Addr) (B nw ini : String) (bmB : List Value) : Prop where
  b : ExB B nw ini bmB
  cls : ∃ nm q N bs sn sub ab col dd k0 k1 k2 k3 k5, K.lookup C = some (excClassObj nm q C N bs (.ref W :: bmB) true sn sub ab col dd k0 k1 k2 k3 k5 nw)
  sa : PySem.W.findIn K (.ref C) "__setattr__" = some (some (.builtin "object.__setattr__"))
  kC : PySem.W.keepIn K (.ref C) = true
  sup : PySem.W.ks_superIn K C C "__init__" = some (some (.builtin ini))
  subB : PySem.W.subIn K (.ref C) (.type B) = some true
  self : PySem.W.mroIn K C (.ref C) = some true
  opq : PySem.W.nsIn K cStatics "thirdparty.any" = some none
theorem ExK.cd {K : PySem.W.Frag} {C W : Addr} {B nw ini : String} {bmB : List Value} (T : ExK K C W B nw ini bmB) : ∃ cd, PySem.W.clsIn K C = some cd ∧ cd.mro = .ref C :: .ref W :: bmB ∧ cd.hasDict = true := by
  obtain ⟨nm, q, N, bs, sn, sub, ab, col, dd, k0, k1, k2, k3, k5, e⟩ := T.cls
  refine ⟨{ name := nm, bases := bs, mro := .ref C :: .ref W :: bmB, ns := N, qualname := q, hasDict := true, slotNames := sn, subclasses := sub, abstract := ab, collection := col, hasDel := false }, ?_, rfl, rfl⟩
  unfold PySem.W.clsIn
  rw [e]
/-- what it says of the __init__ -/
structure SupF (O : Wo) (C fI cc cda : Addr) (qual : Str) (pr : Arguments) (body : List Stmt) (sc : Scope) (ar : Arg) : Prop where
  fn : ∃ oc od name kV doc pm an ct osl, O.K.lookup fI = some ⟨oc, od, .func (PySem.W.ksFn name qual pr body sc .none kV doc pm an (.ref cda) ct cc), osl⟩
  head : (pr.posonlyargs ++ pr.args).head? = some ar
  code : PySem.W.codeIn O.K (.ref cda) qual = true
  file : ∃ ccl cdd vs ccs file tf, O.K.lookup cda = some ⟨ccl, cdd, .fields vs, ccs⟩ ∧ vs[2]? = some (.str file tf) ∧ ((O.P.main.file : Str) == file) = true
  cell : ∃ cl cld csl, O.K.lookup cc = some ⟨cl, cld, .cell (some (.ref C)), csl⟩
  ks : sc.names.lookup ("super" : Str) = some .globalImplicit
  kc : sc.names.lookup ("__class__" : Str) = some .free
  ka : sc.names.lookup ar.arg = some .local
  top : (O.P.main.scope.names.lookup ("super" : Str)).isSome = false
  glob : O.mg "super" = none
section
variable {O : Wo} {N : List Str} {A : Around} {fr : List Env} {s₀ s : Shared} {H H₀ : Hp} {xe : Value → Shared → Prop} {C W fI cc cda L a : Addr} {qual : Str} {pr : Arguments} {body : List Stmt} {sc : Scope} {ar : Arg} {B nw ini : String} {bmB : List Value} {σ : L2.St} {pins : List (Addr × Obj)}
/-- super().__init__(text) -/
theorem sup_stmt {p0 p1 p2 p3 p4 : Pos} {arg : Expr} {Q : Flow → Shared → Prop} (T : ExK O.K C W B nw ini bmB) (F : SupF O C fI cc cda qual pr body sc ar) (hk : sc.kind = .function)
    (I : Inv (cxS O N A (PySem.W.ksEnv qual sc L fI (.ref cda) cc) fr s₀ H₀ xe) pins σ H s) (hN : N[0]? = some ar.arg) (hσ : σ[0]? = some (some (.ref a))) (he : H a = some (exo a C none))
    (ha : PE (cxS O N A (PySem.W.ksEnv qual sc L fI (.ref cda) cc) fr s₀ H₀ xe) arg (fun σ' H' Q => σ' = σ ∧ H' = H ∧ ∀ t, Q (.str t) H))
    (hst : starEach [arg] (PySem.W.ksEnv qual sc L fI (.ref cda) cc) = (false, eval arg (PySem.W.ksEnv qual sc L fI (.ref cda) cc)) :: starEach [] (PySem.W.ksEnv qual sc L fI (.ref cda) cc))
    {pl : Sem Bool} (hev : eval (.Call (.Attribute (.Call (.Name "super" p0) [] [] p1) "__init__" p2) [arg] [] p3) (PySem.W.ksEnv qual sc L fI (.ref cda) cc) = (do
      let ov ← attributeBase (.Call (.Name "super" p0) [] [] p1) "__init__" (PySem.W.ksEnv qual sc L fI (.ref cda) cc) (eval (.Call (.Name "super" p0) [] [] p1) (PySem.W.ksEnv qual sc L fI (.ref cda) cc))
      standAt p2.atName
      let (f, first) ← holding [ov] (getMethod ov "__init__" pl)
      callWith p3 f first (backTo p3 (starEach [arg] (PySem.W.ksEnv qual sc L fI (.ref cda) cc))) []))
    (hsw : swapsWith (.Call (.Attribute (.Call (.Name "super" p0) [] [] p1) "__init__" p2) [arg] [] p3) none p4.line (PySem.W.ksEnv qual sc L fI (.ref cda) cc) = pure false)
    (hq : ∀ s', Inv (cxS O N A (PySem.W.ksEnv qual sc L fI (.ref cda) cc) fr s₀ H₀ xe) pins σ H s' → Q .next s') :
    PySem.wpAt (model O.P O.w) A (.func body (PySem.W.ksEnv qual sc L fI (.ref cda) cc)) (PySem.exec (Stmt.Expr (.Call (.Attribute (.Call (.Name "super" p0) [] [] p1) "__init__" p2) [arg] [] p3) p4) (PySem.W.ksEnv qual sc L fI (.ref cda) cc)) Q xe s := by
  obtain ⟨oc, od, name, kV, doc, pm, an, ct, osl, lf⟩ := F.fn
  obtain ⟨ccl, cdd, vs, ccs, file, tf, lcd, hvs, hfile⟩ := F.file
  obtain ⟨cl, cld, csl, lcell⟩ := F.cell
  obtain ⟨cd, hcd, hmro, hdict⟩ := T.cd
  obtain ⟨nm, q, N', bs, sn, sub, ab, col, dd, k0, k1, k2, k3, k5, lC⟩ := T.cls
  have kin : O.K.In s.heap := I.kIn
  obtain ⟨oD, hD1, hD2⟩ : ∃ oD, s.heap.get? C = some oD ∧ oD.data = .cls cd := by
    unfold PySem.W.clsIn at hcd
    split at hcd
    · rename_i c d cd' sl ho
      cases hcd
      exact ⟨_, kin _ _ ho, rfl⟩
    · cases hcd
  obtain ⟨t1, hx⟩ := exo_at I.hok he
  obtain ⟨m, hns, hm⟩ := I.loc
  obtain ⟨u, ru, lk⟩ := hm 0 ar.arg _ hN hσ (.inl F.ka)
  obtain rfl : u = Value.ref a := ru
  have hself : m ar.arg = some (.ref a) := by
    rcases lk with ⟨_, e⟩ | ⟨z, _⟩
    · exact e
    · have ka : (PySem.W.ksEnv qual sc L fI (.ref cda) cc).kindOf ar.arg = some .local := F.ka
      rcases z with z | z
      · exact absurd (ka.symm.trans z) (by decide)
      · exact absurd (ka.symm.trans z) (by decide)
  refine PySem.ks_wpAt_Expr_any (PySem.ks_wpAt_MethodCall (pl := pl) ?_ hev) (by unfold interactive; simp [hk]) hsw
  refine PySem.ks_wpAt_super_base (env := PySem.W.ksEnv qual sc L fI (.ref cda) cc) F.ks F.kc (by decide) rfl (kin _ _ lf) rfl F.head rfl (kin _ _ lcd) rfl hvs hfile F.top ?_
  obtain ⟨mb, b1, b2⟩ := I.mod.blt
  refine PySem.W.ks_loadName_global hk F.ks (Calls.loadGlobal_builtin (env := PySem.W.ksEnv qual sc L fI (.ref cda) cc) (I.mod.glob.keeps I.bk) F.glob (b1.keeps I.bk) ((b2 _ (by decide)).trans (by decide +kernel : bootBuiltins "super" = some (.type "super"))) ⟨rfl, ?_⟩)
  refine wpAny_loadName_free hk F.kc rfl ⟨_, kin _ _ lcell, rfl⟩ ?_
  refine wpAny_loadName_local hk F.ka hns hself ?_
  refine PySem.ks_wpAny_isType_cls hD1 hD2 ⟨rfl, ?_⟩
  obtain ⟨hp, g, d, t, os⟩ := s
  refine PySem.ks_wpAny_call_super hD1 hD2 hx rfl (fun c e => by cases e) (PySem.W.looks_mroIn kin T.self) (fun h' e k => ?_)
  have I1 := I.kept (h' := h') (t' := t) k
  have hx1 := k _ _ hx
  have ix : PySem.W.InstAt h' a ({ cls := .ref C, dict := none, data := .fields #[.ref t1, .none, .none, .none, .bool false, .none] } : Obj) C none := ⟨hx1, rfl, rfl, trivial⟩
  have kin1 : O.K.In h' := I1.kIn
  have al : PySem.W.alongIn O.K "__init__" ((cd.mro.dropWhile (· != .ref C)).drop 1) = some (some (.builtin ini)) := by
    have z := T.sup
    unfold PySem.W.ks_superIn at z
    rw [hcd] at z
    exact z
  refine PySem.W.kxs_getMethod T.b.kf e (PySem.W.looks_opaque kin1 T.opq) (l₀ := cd.mro) ((PySem.W.looks_clsIn kin1 hcd).andThen .now) rfl kin1 al (ix.type.andThen (PySem.W.looks_subIn kin1 T.subB)) (PySem.W.ks_ne kin1 ix hcd) (by decide) ?_
  have k2 : ∀ b o, h'.get? b = some o → (h'.push (PySem.W.kxs_mw ini a)).get? b = some o := fun b o z => Heap.get?_push_of_some _ z
  have I2 := I1.kept (h' := h'.push (PySem.W.kxs_mw ini a)) (t' := t + 1) k2
  have hmw : (h'.push (PySem.W.kxs_mw ini a)).get? h'.objs.size = some (PySem.W.kxs_mw ini a) := Heap.get?_push_at rfl rfl
  have pl0 : (backTo p3 (starEach [arg] (PySem.W.ksEnv qual sc L fI (.ref cda) cc))).any (·.1) = false := by
    rw [hst]
    rfl
  refine PySem.W.kxs_callWith (i := ini) (x := a) pl0 ?_
  have I3 : Inv (cxS O N A (PySem.W.ksEnv qual sc L fI (.ref cda) cc) fr s₀ H₀ xe) (pins ++ [(h'.objs.size, PySem.W.kxs_mw ini a)]) σ H { heap := h'.push (PySem.W.kxs_mw ini a), gens := g, drawn := d, toks := t + 1, os := os } := I2.pins_of fun p hp => by
    rcases List.mem_append.mp hp with hp | hp
    · exact I2.pin p (List.mem_append_right _ hp)
    · rw [List.mem_singleton] at hp
      subst hp
      exact ⟨hmw, I1.hok.fresh (Nat.le_refl _), (Nat.ne_of_lt I1.lt).symm, I1.nofs (Nat.le_refl _), fun v z => by cases z⟩
  suffices hh : wpAny (model O.P O.w) A (spliced (backTo p3 (starEach [arg] (PySem.W.ksEnv qual sc L fI (.ref cda) cc)))) (fun vs s₁ => PySem.W.KxsAt ini h'.objs.size a s₁.heap ∧ wpAny (model O.P O.w) A (call (.ref h'.objs.size) vs) (fun _ => Q .next) xe s₁) xe { heap := h'.push (PySem.W.kxs_mw ini a), gens := g, drawn := d, toks := t + 1, os := os } by
    rw [hst] at hh ⊢
    exact Calls.evalArgs_plain hh
  refine thn ((pa_cons ha pa_nil hst).run p3 _ _ σ H (fun vs H1 => H1 = H ∧ vs.length = 1) I3 ⟨rfl, rfl, fun t => ⟨rfl, rfl⟩⟩) fun us s1 q => ?_
  obtain ⟨vs1, H1, I4, r4, e4, l4⟩ := q
  subst e4
  obtain ⟨hmw1, _⟩ := I4.pin (h'.objs.size, PySem.W.kxs_mw ini a) (List.mem_append_right _ (List.mem_append_right _ (List.mem_singleton.mpr rfl)))
  refine ⟨hmw1, ?_⟩
  obtain ⟨t2, hx2⟩ := exo_at I4.hok he
  have hus : us.length ≤ sizeLine := by
    rw [Vals.len r4, l4, sizeLine_eq]
    omega
  have kin4 := I4.kIn
  obtain ⟨hp4, g4, d4, t4, os4⟩ := s1
  refine callG T.b (kin4 _ _ lC) hx2 hmw1 hus fun h5 t5 k5 e5 => ?_
  have J := I4.write (t' := t4) (x := a) (e := a) (o := exo a C none) (by rw [he]; exact True.intro) (.inl rfl) k5 ⟨_, e5⟩ (exo_ok e5)
  have eu : upd H1 a (exo a C none) = H1 := by
    funext b
    by_cases hb : b = a
    · rw [hb, upd_same, he]
    · rw [upd_ne hb]
  rw [eu] at J
  exact hq _ J.unpinned
end
end Pyi
set_option Elab.async false
set_option linter.all false
set_option maxRecDepth 100000
set_option maxHeartbeats 4000000
/-! the fields of an own exception -/
namespace Pyi
open PySem L2
/-- the exception at a that is being made: H1: ahead of it; gs: its fields, the last one first -/
def FSt (H1 : Hp) (a C : Addr) (gs : List (Str × V)) (H : Hp) : Prop :=
  (∀ b u, H1 b = some u → H b = some u) ∧ ((gs = [] ∧ H a = some (exo a C none)) ∨ ∃ dx, H1 dx = none ∧ dx ≠ a ∧ H a = some (exo a C (some dx)) ∧ H dx = some (exd dx gs))
/-- tuples stay -/
def Tk (H H' : Hp) : Prop := (∀ b xs, H b = some (.tup xs) → H' b = some (.tup xs)) ∧ ∀ b o u, H b = some (.frz o u) → H' b = some (.frz o u)
theorem Tk.ext {H H' : Hp} (t : Tk H H') {n : Nat} {ρ : Nat → Addr} : Ext n n ρ ρ H H' := ⟨Nat.le_refl _, fun _ _ => rfl, t.1, t.2⟩
theorem exd_frz {e : Addr} {fs : List (Str × V)} {o : Obj} {u : HO} : exd e fs ≠ .frz o u := fun z => by
  have z' : HO.ext _ = HO.frz o u := z
  cases z'
section
variable {X : Cx} {pins : List (Addr × Obj)} {σ : L2.St} {H H1 : Hp} {s : Shared} {a C W : Addr} {f : Str} {y : V} {u : Value} {gs : List (Str × V)} {Q : Unit → Shared → Prop} {E : Value → Shared → Prop} {A : Around} {B nw ini : String} {bmB : List Value}
theorem ostG (T : ExK X.K C W B nw ini bmB) (I : Inv X pins σ H s) (h1a : H1 a = none) (st : FSt H1 a C gs H) (hl : gs.length ≤ 900) (hno : PySem.W.findIn X.K (.ref C) f = some none) (ry : RelV y u)
    (hq : ∀ s' H', Inv X pins σ H' s' → FSt H1 a C ((f, y) :: gs) H' → Tk H H' → Q () s') : wpAny (model X.prog X.w) A (setAttr (.ref a) f u) Q E s := by
  obtain ⟨cd, hcd, hm, hh⟩ := T.cd
  obtain ⟨keep, ⟨rfl, ea⟩ | ⟨dx, nd, nda, ea, ed⟩⟩ := st
  · obtain ⟨t1, ho⟩ := exo_at I.hok ea
    have kin := I.kIn
    obtain ⟨hp, g, d, t, os⟩ := s
    refine PySem.W.set_plain kin (ox := { cls := .ref C, dict := none, data := .fields #[.ref t1, .none, .none, .none, .bool false, .none] }) (od := none) ⟨ho, rfl, rfl, trivial⟩ T.sa ?_
    refine osaG_new T.b kin ho hcd hm hh hno fun h' tk' dx k dn dne hx hn => ?_
    have hnd : H dx = none := I.hok.fresh dn
    have hd1 : H1 dx = none := by
      cases z : H1 dx with
      | none => rfl
      | some u => rw [keep _ _ z] at hnd; cases hnd
    have nd : ∀ {b : Addr} {o : Obj}, hp.get? b = some o → b ≠ dx := fun {b o} q => Nat.ne_of_lt (Nat.lt_of_lt_of_le (Heap.lt_size q) dn)
    have na : ∀ {b : Addr}, H b = none → b ≠ a := fun {b} n z => by rw [z, ea] at n; cases n
    have U : Un X.fs [] H (upd (upd H dx (exd dx [(f, y)])) a (exo a C (some dx))) hp h' := by
      constructor
      case keep => exact fun b o q n _ _ => k b o (na n) q
      case slot => exact fun b o q n _ _ => ⟨o.slots, k b o (na n) q⟩
      case free => exact fun b o q n _ => by rw [upd_ne (na n), upd_ne (nd q)]; exact n
      case there =>
        intro b o q _
        by_cases hb : b = a
        · exact ⟨_, hb ▸ hx⟩
        · exact ⟨o, k b o hb q⟩
      case tups => exact fun b xs q => by rw [upd_ne (at_ne ea q exo_tup), upd_ne (ne_of_none q hnd)]; exact q
      case frzs => exact fun b o v q => by rw [upd_ne (at_ne ea q exo_frz), upd_ne (ne_of_none q hnd)]; exact q
      case tbls => exact fun b ps q => ⟨#[], by rw [upd_ne (at_ne ea q exo_tbl), upd_ne (ne_of_none q hnd), q]; simp⟩
    have J := I.un (t' := tk') U fun b o q => by
      by_cases hb : b = a
      · subst hb
        rw [upd_same] at q
        cases q
        exact exo_ok hx
      · rw [upd_ne hb] at q
        by_cases hd : b = dx
        · subst hd
          rw [upd_same] at q
          cases q
          exact exd_ok hn (relO_put (fs := []) ry fun g => True.intro)
        · rw [upd_ne hd] at q
          refine (I.hok b o q).stay (fun c v hc z => k c v ?_ z) (fun c hc => ?_) (fun c xs hc => ?_)
          · rcases hc with hc | hc
            · exact hc ▸ hb
            · exact at_ne ea hc exo_own
          · rw [upd_ne (at_ne ea hc exo_own), upd_ne (ne_of_none hc hnd)]
            exact hc
          · rw [upd_ne (at_ne ea hc exo_tup), upd_ne (ne_of_none hc hnd)]
            exact hc
    refine hq _ _ J ⟨fun b u q => ?_, .inr ⟨dx, hd1, dne, upd_same, ?_⟩⟩ ⟨U.tups, U.frzs⟩
    · have q' := keep b u q
      rw [upd_ne (ne_of_none q h1a), upd_ne (ne_of_none q' hnd)]
      exact q'
    · rw [upd_ne dne, upd_same]
  · obtain ⟨t1, ho⟩ := exo_at I.hok ea
    obtain ⟨mA, hns, rel⟩ := exd_at I.hok ed
    have hw := within_of rel
    have kin := I.kIn
    obtain ⟨hp, g, d, t, os⟩ := s
    obtain ⟨oD, _, _, hoD, _, _⟩ := hns.count hw
    refine PySem.W.set_plain kin (ox := { cls := .ref C, dict := some dx, data := .fields #[.ref t1, .none, .none, .none, .bool false, .none] }) (od := some oD) ⟨ho, rfl, rfl, hoD⟩ T.sa ?_
    refine osaG_old T.b kin ho hns hw (by rw [List.length_map]; omega) hcd hm hh hno fun h' tk' k hn => ?_
    have hd : ∃ o, h'.get? dx = some o := by
      obtain ⟨o, _, _, e', _⟩ := hn
      exact ⟨o, e'⟩
    have J := I.write (t' := tk') (x := dx) (e := dx) (o := exd dx ((f, y) :: gs)) (by rw [ed]; exact True.intro) (.inl rfl) k hd (exd_ok hn (relO_put ry rel))
    refine hq _ _ J ⟨fun b u q => ?_, .inr ⟨dx, nd, nda, ?_, upd_same⟩⟩ ⟨fun b xs q => ?_, fun b o u q => ?_⟩
    · rw [upd_ne (ne_of_none q nd)]
      exact keep b u q
    · rw [upd_ne (Ne.symm nda)]
      exact ea
    · rw [upd_ne (at_ne ed q exd_tup)]
      exact q
    · rw [upd_ne (at_ne ed q exd_frz)]
      exact q
end
section
variable {X : Cx} {Z : Ad} {pins : List (Addr × Obj)} {σ : L2.St} {H H1 : Hp} {s : Shared} {a C W : Addr} {f sf x : Str} {gs : List (Str × V)} {Q : Flow → Shared → Prop} {B nw ini : String} {bmB : List Value} {i : Nat} {v : V} {p1 p2 p3 p4 p5 pos : Pos}
/-- self.f = x -/
theorem st_name (T : ExK X.K C W B nw ini bmB) (I : Inv X pins σ H s) (h1a : H1 a = none) (st : FSt H1 a C gs H) (hl : gs.length ≤ 900) (hno : PySem.W.findIn X.K (.ref C) f = some none)
    (h0 : X.N[0]? = some sf) (v0 : Vis X.env.scope sf) (d0 : (sf == ("__debug__" : Str)) = false) (c0 : (sf == ("__classdict__" : Str)) = false) (s0 : σ[0]? = some (some (.ref a)))
    (hi : X.N[i]? = some x) (vi : Vis X.env.scope x) (di : (x == ("__debug__" : Str)) = false) (ci : (x == ("__classdict__" : Str)) = false) (si : σ[i]? = some (some v))
    (hs : swapsWith (.Name x p3) (some (.Attribute (.Name sf p1) f p2)) pos.line X.env = pure false)
    (hq : ∀ s' H', Inv X pins σ H' s' → FSt H1 a C ((f, v) :: gs) H' → Tk H H' → Q .next s') : wpAny (model X.prog X.w) X.A (PySem.exec (.Assign [.Attribute (.Name sf p1) f p2] (.Name x p3) pos) X.env) Q X.xe s := by
  refine plainObj_wpAny_Assign_Attribute (thn ((pe_var hi vi di ci).run pins s σ H (fun w H' => w = v ∧ H' = H) I ⟨v, si, rfl, rfl⟩) fun u s1 q => ?_) hs
  obtain ⟨w, H', I1, ru, rfl, rfl⟩ := q
  refine thn ((pe_var h0 v0 d0 c0).run pins s1 σ H' (fun w H'' => w = .ref a ∧ H'' = H') I1 ⟨_, s0, rfl, rfl⟩) fun u2 s2 q => ?_
  obtain ⟨w2, H2, I2, ru2, rfl, rfl⟩ := q
  obtain rfl : u2 = Value.ref a := ru2
  exact ostG T I2 h1a st hl hno ru hq
/-- self.f = tuple(x) -/
theorem st_tuple {ys : List V} {b : Addr} (T : ExK X.K C W B nw ini bmB) (I : Inv X pins σ H s) (h1a : H1 a = none) (st : FSt H1 a C gs H) (hl : gs.length ≤ 900) (hno : PySem.W.findIn X.K (.ref C) f = some none)
    (h0 : X.N[0]? = some sf) (v0 : Vis X.env.scope sf) (d0 : (sf == ("__debug__" : Str)) = false) (c0 : (sf == ("__classdict__" : Str)) = false) (s0 : σ[0]? = some (some (.ref a)))
    (hi : X.N[i]? = some x) (vi : Vis X.env.scope x) (di : (x == ("__debug__" : Str)) = false) (ci : (x == ("__classdict__" : Str)) = false) (si : σ[i]? = some (some (.ref b)))
    (hg : Gl X "tuple") (hm : X.mg "tuple" = none) (sq : SqL X.K H b ys ∨ SqT X.K H b ys)
    (hs : swapsWith (.Call (.Name "tuple" p4) [.Name x p3] [] p5) (some (.Attribute (.Name sf p1) f p2)) pos.line X.env = pure false)
    (hq : ∀ s' H' c, Inv X pins σ H' s' → FSt H1 a C ((f, .ref c) :: gs) H' → Tk H H' → SqT X.K H' c ys → Q .next s') : wpAny (model X.prog X.w) X.A (PySem.exec (.Assign [.Attribute (.Name sf p1) f p2] (.Call (.Name "tuple" p4) [.Name x p3] [] p5) pos) X.env) Q X.xe s := by
  have fin : ∀ (u : Value) (s1 : Shared) (H' : Hp) (c : Addr), Inv X pins σ H' s1 → RelV (.ref c) u → FSt H1 a C gs H' → Tk H H' → SqT X.K H' c ys → wpAny (model X.prog X.w) X.A (eval (.Name sf p1) X.env) (fun ov s₂ => wpAny (model X.prog X.w) X.A (setAttr ov f u) (fun _ => Q .next) X.xe s₂) X.xe s1 := fun u s1 H' c I1 ru st' tk sq' => by
    refine thn ((pe_var h0 v0 d0 c0).run pins s1 σ H' (fun w H'' => w = .ref a ∧ H'' = H') I1 ⟨_, s0, rfl, rfl⟩) fun u2 s2 q => ?_
    obtain ⟨w2, H2, I2, ru2, rfl, rfl⟩ := q
    obtain rfl : u2 = Value.ref a := ru2
    refine ostG T I2 h1a st' hl hno ru fun s' H3 J st3 tk3 => ?_
    exact hq s' H3 c J st3 ⟨fun b xs e => tk3.1 _ _ (tk.1 _ _ e), fun b o u e => tk3.2 _ _ _ (tk.2 _ _ _ e)⟩ (sqT_ext (tk3.ext (n := 0) (ρ := fun _ => 0)) sq')
  have hpa : PA X [.Name x p3] (tCons (tVar i) tNil) := pa_cons (pe_var hi vi di ci) pa_nil rfl
  refine plainObj_wpAny_Assign_Attribute (thn ((pe_callTy call_tuple_of hg hm (by decide +kernel) hpa).run pins s σ H (fun w H' => ∃ c, w = .ref c ∧ FSt H1 a C gs H' ∧ Tk H H' ∧ SqT X.K H' c ys) I ?_) fun u s1 q => ?_) hs
  · refine ⟨_, si, b, ys, rfl, ?_⟩
    rcases sq with sq | sq
    · refine .inl ⟨sq, fun l hl => ⟨l, rfl, ⟨fun b u e => ?_, ?_⟩, ⟨fun b xs e => keep_upd hl _ _ e, fun b o u e => keep_upd hl _ _ e⟩, SqT.of upd_same⟩⟩
      · exact keep_upd hl _ _ (st.1 b u e)
      · rcases st.2 with ⟨z, ea⟩ | ⟨dx, n1, n2, ea, ed⟩
        · exact .inl ⟨z, keep_upd hl _ _ ea⟩
        · exact .inr ⟨dx, n1, n2, keep_upd hl _ _ ea, keep_upd hl _ _ ed⟩
    · exact .inr ⟨sq, b, rfl, st, ⟨fun _ _ e => e, fun _ _ _ e => e⟩, sq⟩
  · obtain ⟨w, H', I1, ru, c, rfl, st', tk, sq'⟩ := q
    exact fin u s1 H' c I1 ru st' tk sq'
end
end Pyi
set_option Elab.async false
set_option linter.all false
set_option maxRecDepth 100000
set_option maxHeartbeats 4000000
/-! an own exception made -/
namespace Pyi
open PySem L2
def ixIn : List Str → Str → Option Nat
  | [], _ => none
  | y :: r, x => if x == y then some 0 else (ixIn r x).map (· + 1)
theorem ixIn_get : ∀ {N : List Str} {x : Str} {i : Nat}, ixIn N x = some i → N[i]? = some x
  | [], x, i, h => by cases h
  | y :: r, x, i, h => by
    unfold ixIn at h
    split at h
    · rename_i e
      cases h
      simp [eq_of_beq e]
    · cases e : ixIn r x with
      | none => rw [e] at h; cases h
      | some j =>
        rw [e] at h
        cases h
        simpa using ixIn_get e
def okN (x : Str) : Bool := !(x == ("__debug__" : Str)) && !(x == ("__classdict__" : Str))
theorem okN_d {x : Str} (h : okN x = true) : (x == ("__debug__" : Str)) = false ∧ (x == ("__classdict__" : Str)) = false := by
  unfold okN at h
  simp only [Bool.and_eq_true, Bool.not_eq_true'] at h
  exact h
def cPart (N : List Str) : Expr → Option Mp
  | .Constant (.str x) _ _ => some (.txt x)
  | .FormattedValue (.Name x _) c none _ => match ixIn N x with
    | some (i + 1) => if okN x then (if c = -1 then some (.fmt i) else if c = 114 then some (.rep i) else none) else none
    | _ => none
  | _ => none
def cParts (N : List Str) : List Expr → Option (List Mp)
  | [] => some []
  | v :: vs => match cPart N v, cParts N vs with
    | some m, some ms => some (m :: ms)
    | _, _ => none
def cMsg (N : List Str) : Expr → Option (List Mp)
  | .Constant (.str x) _ _ => some [.txt x]
  | .JoinedStr (v :: vs) _ => cParts N (v :: vs)
  | _ => none
def cStore (N : List Str) : Stmt → Option (Str × Nat × Bool)
  | .Assign [.Attribute (.Name sf _) f _] (.Name p _) _ => match N[0]?, ixIn N p with
    | some s0, some (i + 1) => if s0 == sf && okN sf && okN p then some (f, i, false) else none
    | _, _ => none
  | .Assign [.Attribute (.Name sf _) f _] (.Call (.Name tp _) [.Name p _] [] _) _ => match N[0]?, ixIn N p with
    | some s0, some (i + 1) => if s0 == sf && okN sf && okN p && tp == ("tuple" : Str) then some (f, i, true) else none
    | _, _ => none
  | _ => none
def cStores (N : List Str) : List Stmt → Option (List (Str × Nat × Bool))
  | [] => some []
  | s :: ss => match cStore N s, cStores N ss with
    | some m, some ms => some (m :: ms)
    | _, _ => none
section
variable {X : Cx} {Z : Ad}
def tPt (X : Cx) (Z : Ad) : Mp → TE
  | .txt x => tC (.str x)
  | .fmt i => tM X.K Z (at1 fmtD (i + 1))
  | .rep i => tM X.K Z (at1 showR (i + 1))
theorem pe_part (hgd : X.A.guards = some []) (hu : X.A.units + 64 < cLine) (hv : ∀ x ∈ X.N, Vis X.env.scope x) {e : Expr} {m : Mp} (h : cPart X.N e = some m) : PE X e (tPt X Z m) := by
  unfold cPart at h
  split at h
  · cases h
    exact pe_str
  · rename_i x p c pos
    split at h
    · rename_i i hi
      have hN := ixIn_get hi
      split at h
      · rename_i ok
        obtain ⟨o1, o2⟩ := okN_d ok
        split at h
        · rename_i hc
          subst hc
          cases h
          exact pe_mFmt hgd hu hN (hv _ (List.mem_of_getElem? hN)) o1 o2
        · split at h
          · rename_i hc
            subst hc
            cases h
            exact pe_mRep hgd hu hN (hv _ (List.mem_of_getElem? hN)) o1 o2
          · cases h
      · cases h
    · cases h
  · cases h
theorem pj_parts (hgd : X.A.guards = some []) (hu : X.A.units + 64 < cLine) (hv : ∀ x ∈ X.N, Vis X.env.scope x) : ∀ {es : List Expr} {ms : List Mp}, cParts X.N es = some ms → PJ X es (ms.map (tPt X Z))
  | [], ms, h => by cases h; exact .nil
  | e :: es, ms, h => by
    unfold cParts at h
    split at h
    · rename_i m ms' h1 h2
      cases h
      exact .cons (pe_part hgd hu hv h1) (pj_parts hgd hu hv h2)
    · cases h
theorem at1_ds {f : Hh → D → Option Str} {i : Nat} {ds : List D} {h : Hh} : at1 f (i + 1) (none :: ds.map some) h = (ds[i]?).bind (f h) := by
  unfold at1
  rw [List.getElem?_cons_succ, List.getElem?_map]
  cases ds[i]? <;> rfl
theorem tPt_ok {σ : L2.St} {H : Hp} {h : Hh} {ρ : Nat → Addr} {ds : List D} {m : Mp} {t : Str} {Q : VK} (g : Good X.K Z h ρ H) (rs : RelS X.K Z h.n ρ H (none :: ds.map some) σ) (e : mpText ds h m = some t) (hq : Q (.str t) H) : tPt X Z m σ H Q := by
  cases m with
  | txt x => cases e; exact hq
  | fmt i => exact ⟨ρ, _, h, t, g, rs, by rw [at1_ds]; exact e, hq⟩
  | rep i => exact ⟨ρ, _, h, t, g, rs, by rw [at1_ds]; exact e, hq⟩
theorem mpLen_ok {h : Hh} {ds : List D} {m : Mp} {k : Nat} (e : mpLen ds h m = some k) : ∃ t, mpText ds h m = some t ∧ t.length ≤ k := by
  have ln : ∀ {d : D} {k : Nat}, (lenD h d).map (·.2) = some k → ∃ t, showR h d = some t ∧ t.length ≤ k := by
    intro d k e
    cases q : lenD h d with
    | none => rw [q] at e; cases e
    | some r =>
      rw [q] at e
      cases e
      exact ⟨r.1.shown, by unfold showR; rw [q]; rfl, (lenD_some (k := r.2) (p := r.1) q).2.2.1⟩
  cases m with
  | txt x => cases e; exact ⟨x, rfl, Nat.le_refl _⟩
  | fmt i =>
    have e : (ds[i]?).bind (fmtLen h) = some k := e
    show ∃ t, (ds[i]?).bind (fmtD h) = some t ∧ _
    cases q : ds[i]? with
    | none => rw [q] at e; cases e
    | some d =>
      rw [q] at e
      have e : fmtLen h d = some k := e
      show ∃ t, fmtD h d = some t ∧ _
      cases d with
      | str x =>
        have e : (if x.length ≤ sizeLine then some x.length else none) = some k := e
        show ∃ t, (if x.length ≤ sizeLine then some x else none) = some t ∧ _
        split at e
        · rename_i hz
          cases e
          exact ⟨x, if_pos hz, Nat.le_refl _⟩
        · cases e
      | int i =>
        have e : (if i.natAbs.log2 < 1920 then some 610 else none) = some k := e
        show ∃ t, (if i.natAbs.log2 < 1920 then some ((toString i : String) : Str) else none) = some t ∧ _
        split at e
        · rename_i hz
          cases e
          exact ⟨_, if_pos hz, int_len hz⟩
        · cases e
      | tup xs => exact ln e
      | ref a => exact ln e
      | non => cases e
      | bl b => cases e
      | cls c => cases e
  | rep i =>
    have e : (ds[i]?).bind (fun d => (lenD h d).map (·.2)) = some k := e
    show ∃ t, (ds[i]?).bind (showD h) = some t ∧ _
    cases q : ds[i]? with
    | none => rw [q] at e; cases e
    | some d =>
      rw [q] at e
      exact ln e
theorem js_parts {σ : L2.St} {H : Hp} {h : Hh} {ρ : Nat → Addr} {ds : List D} {Q : Str → Hp → Prop} (g : Good X.K Z h ρ H) (rs : RelS X.K Z h.n ρ H (none :: ds.map some) σ) (hq : ∀ t, Q t H) : ∀ {ms : List Mp} {acc : Str} {b k : Nat}, acc.length ≤ b → msgLen ds h ms b = some k → tJs (ms.map (tPt X Z)) acc σ H Q
  | [], acc, b, k, hb, e => hq acc
  | m :: ms, acc, b, k, hb, e => by
    unfold msgLen at e
    split at e
    · rename_i k1 hy
      split at e
      · rename_i hz
        have hz := Nat.le_of_ble_eq_true hz
        obtain ⟨y, hy1, hy2⟩ := mpLen_ok hy
        have hl : (acc ++ y).length ≤ b + k1 := by
          rw [strLen_append]
          omega
        exact tPt_ok g rs hy1 ⟨y, rfl, Nat.le_trans hl hz, js_parts g rs hq hl e⟩
      · cases e
    · cases e
/-- the text of an exception -/
theorem pe_msg {σ : L2.St} {H : Hp} {h : Hh} {ρ : Nat → Addr} {ds : List D} {arg : Expr} {ms : List Mp} {t : Nat} (hgd : X.A.guards = some []) (hu : X.A.units + 64 < cLine) (hv : ∀ x ∈ X.N, Vis X.env.scope x) (hc : cMsg X.N arg = some ms)
    (g : Good X.K Z h ρ H) (rs : RelS X.K Z h.n ρ H (none :: ds.map some) σ) (e : msgLen ds h ms 0 = some t) : PE X arg (fun σ' H' Q => σ' = σ ∧ H' = H ∧ ∀ t, Q (.str t) H) := by
  unfold cMsg at hc
  split at hc
  · exact pe_mono pe_str fun σ' H' Q ⟨_, eH, q⟩ => by subst eH; exact q _
  · rename_i v vs pos
    cases vs with
    | nil =>
      have pj := pj_parts (Z := Z) hgd hu hv hc
      unfold cParts at hc
      split at hc
      · rename_i m ms' h1 h2
        cases h2
        cases hc
        refine pe_mono (pe_joined1 (pe_part (Z := Z) hgd hu hv h1)) fun σ' H' Q ⟨es, eH, q⟩ => ?_
        subst es eH
        unfold msgLen at e
        split at e
        · rename_i k1 hy
          obtain ⟨y, hy1, _⟩ := mpLen_ok hy
          exact tPt_ok g rs hy1 (q y)
        · cases e
      · cases hc
    | cons v2 vs =>
      refine pe_mono (pe_joined (pj_parts (Z := Z) hgd hu hv hc)) fun σ' H' Q ⟨es, eH, q⟩ => ?_
      subst es eH
      exact js_parts g rs (fun t => q t) (Nat.zero_le _) e
  · cases hc
end
end Pyi
set_option Elab.async false
set_option linter.all false
set_option maxRecDepth 100000
set_option maxHeartbeats 4000000
/-! an own exception made: the body, the call -/
namespace Pyi
open PySem L2
theorem RelFs.snoc {K : PySem.W.Frag} {Z : Ad} {n : Nat} {ρ : Nat → Addr} {H : Hp} {f : Nat} {d : D} {v : V} (rd : RelD K Z n ρ H d v) : ∀ {fs : Fs} {gs : List (Str × V)}, RelFs K Z n ρ H fs gs → RelFs K Z n ρ H (fs ++ [(f, d)]) (gs ++ [(Z.an f, v)])
  | [], gs, h => by
    have e : gs = [] := h
    subst e
    exact ⟨v, [], rfl, rd, rfl⟩
  | (f', d') :: fs, gs, h => by
    obtain ⟨v', r, e, h1, h2⟩ := h
    subst e
    exact ⟨v', r ++ [(Z.an f, v)], rfl, h1, RelFs.snoc rd h2⟩
theorem sqL_keep {K : PySem.W.Frag} {H H' : Hp} {b : Addr} {ys : List V} (k : ∀ b u, H b = some u → H' b = some u) (h : SqL K H b ys) : SqL K H' b ys := by
  rcases h with (h | ⟨o, h⟩) | h
  · exact .inl (.inl (k _ _ h))
  · exact .inl (.inr ⟨o, k _ _ h⟩)
  · exact .inr h
def tF1 (K : PySem.W.Frag) (Z : Ad) (n : Nat) (ρ : Nat → Addr) (H1 : Hp) (a C : Addr) (vs : List V) (fs0 fs1 : Fs) : TS := fun D σ H =>
  ∃ gs, σ = (V.ref a :: vs).map some ∧ FSt H1 a C gs H ∧ Tk H1 H ∧ gs.length = fs0.length ∧ RelFs K Z n ρ H fs0 gs.reverse ∧ ∀ gs' H', FSt H1 a C gs' H' → Tk H1 H' → gs'.length = fs1.length → RelFs K Z n ρ H' fs1 gs'.reverse → D.nx σ H'
section
variable {X : Cx} {Z : Ad} {H1 : Hp} {a C W : Addr} {B nw ini : String} {bmB : List Value} {h : Hh} {ρ : Nat → Addr} {ds : List D} {vs : List V}
/-- the stores, one behind the other -/
theorem pss_flds (T : ExK X.K C W B nw ini bmB) (h1a : H1 a = none) (hv : ∀ x ∈ X.N, Vis X.env.scope x) (hm : X.mg "tuple" = none) (g : Good X.K Z h ρ H1) (rd : RelDs X.K Z h.n ρ H1 ds vs) :
    ∀ {ss : List Stmt} {fl : List (Nat × Nat × Bool)} {fs fs0 : Fs}, (∀ p ∈ fl, p.2.2 = true → Gl X "tuple") → cStores X.N ss = some (fl.map fun p => (Z.an p.1, p.2.1, p.2.2)) → (∀ p ∈ fl, PySem.W.findIn X.K (.ref C) (Z.an p.1) = some none) → fs0.length + fl.length ≤ 900 → excFlds ds h fl = some fs →
      PSs X ss (fun D σ H => ∃ gs, σ = (V.ref a :: vs).map some ∧ FSt H1 a C gs H ∧ Tk H1 H ∧ gs.length = fs0.length ∧ RelFs X.K Z h.n ρ H fs0 gs.reverse ∧ ∀ gs' H', FSt H1 a C gs' H' → Tk H1 H' → RelFs X.K Z h.n ρ H' (fs0 ++ fs) gs'.reverse → D.nx σ H')
  | [], fl, fs, fs0, hg, hc, hno, hl, hf => by
    cases fl with
    | cons p fl => cases hc
    | nil =>
      cases hf
      refine pss_mono pss_nil fun D σ H ⟨gs, es, st, tk, l, r, q⟩ => q gs H st tk ?_
      rw [List.append_nil]
      exact r
  | s :: ss, fl, fs, fs0, hg, hc, hno, hl, hf => by
    cases fl with
    | nil =>
      unfold cStores at hc
      split at hc <;> cases hc
    | cons p fl =>
      obtain ⟨f, i, tu⟩ := p
      unfold cStores at hc
      split at hc
      · rename_i m ms hc1 hc2
        cases hc
        unfold excFlds at hf
        split at hf
        · rename_i d fs' hd hf'
          obtain ⟨v, hvv, rdv⟩ := rd.get hd
          have slot : ∀ w : V, ((V.ref a :: vs).map some)[i + 1]? = some (some v) := fun _ => by rw [List.map_cons, List.getElem?_cons_succ, List.getElem?_map, hvv]; rfl
          have slot0 : ((V.ref a :: vs).map some)[0]? = some (some (V.ref a)) := rfl
          have ih : ∀ (dd : D), fs = (f, dd) :: fs' → PSs X ss (fun D σ H => ∃ gs, σ = (V.ref a :: vs).map some ∧ FSt H1 a C gs H ∧ Tk H1 H ∧ gs.length = (fs0 ++ [(f, dd)]).length ∧ RelFs X.K Z h.n ρ H (fs0 ++ [(f, dd)]) gs.reverse ∧ ∀ gs' H', FSt H1 a C gs' H' → Tk H1 H' → RelFs X.K Z h.n ρ H' (fs0 ++ [(f, dd)] ++ fs') gs'.reverse → D.nx σ H') :=
            fun dd _ => pss_flds T h1a hv hm g rd (fun p hp => hg p (List.mem_cons_of_mem _ hp)) hc2 (fun p hp => hno p (List.mem_cons_of_mem _ hp)) (by rw [List.length_append]; simp only [List.length_cons, List.length_nil] at hl ⊢; omega) hf'
          have tkk : ∀ {H H' : Hp}, Tk H1 H → Tk H H' → Tk H1 H' := fun t1 t2 => ⟨fun b xs e => t2.1 _ _ (t1.1 _ _ e), fun b o u e => t2.2 _ _ _ (t1.2 _ _ _ e)⟩
          unfold cStore at hc1
          split at hc1
          · rename_i sf p1 f' p2 px p3 pos
            split at hc1
            · rename_i s0 i' h0 hi
              split at hc1
              · rename_i ok
                simp only [Bool.and_eq_true] at ok
                obtain ⟨⟨e0, o0⟩, o1⟩ := ok
                have e0 := eq_of_beq e0
                subst e0
                cases hc1
                have hf : some ((f, d) :: fs') = some fs := hf
                cases hf
                obtain ⟨a1, a2⟩ := okN_d o0
                obtain ⟨b1, b2⟩ := okN_d o1
                have hN := ixIn_get hi
                refine pss_mono (pss_cons (t := tF1 X.K Z h.n ρ H1 a C vs fs0 (fs0 ++ [(f, d)])) ⟨fun pins s σ H D I q => ?_⟩ (ih d rfl)) fun D σ H q => ?_
                rotate_left
                · obtain ⟨gs, es, st, tk, l, r, q⟩ := q
                  refine ⟨gs, es, st, tk, l, r, fun gs1 H1' st1 tk1 l1 r1 => ⟨gs1, es, st1, tk1, l1, r1, fun gs' H'' st'' tk'' r'' => q gs' H'' st'' tk'' ?_⟩⟩
                  rw [List.append_assoc] at r''
                  exact r''
                obtain ⟨gs, es, st, tk, l, r, q⟩ := q
                subst es
                refine st_name T I h1a st (by omega) (hno _ List.mem_cons_self) h0 (hv _ (List.mem_of_getElem? h0)) a1 a2 slot0 hN (hv _ (List.mem_of_getElem? hN)) b1 b2 (slot v) rfl fun s' H' J st' tk' => ?_
                refine ⟨_, H', J, q ((Z.an f, v) :: gs) H' st' (tkk tk tk') ?_ ?_⟩
                · rw [List.length_cons, List.length_append, l]; rfl
                · rw [List.reverse_cons]
                  exact RelFs.snoc (rdv.ext (tkk tk tk').ext) (r.ext tk'.ext)
              · cases hc1
            · cases hc1
          · rename_i sf p1 f' p2 tp p4 px p3 p5 pos
            split at hc1
            · rename_i s0 i' h0 hi
              split at hc1
              · rename_i ok
                simp only [Bool.and_eq_true] at ok
                obtain ⟨⟨⟨e0, o0⟩, o1⟩, etp⟩ := ok
                have e0 := eq_of_beq e0
                have etp := eq_of_beq etp
                subst e0
                subst etp
                cases hc1
                have hf : (match seqOf h d with
                  | some xs => some ((f, D.tup xs) :: fs')
                  | none => none) = some fs := hf
                split at hf
                · rename_i xs hxs
                  cases hf
                  obtain ⟨a1, a2⟩ := okN_d o0
                  obtain ⟨b1, b2⟩ := okN_d o1
                  have hN := ixIn_get hi
                  obtain ⟨b, ys, eb, _, rys, cs⟩ := g.sq rdv hxs
                  subst eb
                  refine pss_mono (pss_cons (t := tF1 X.K Z h.n ρ H1 a C vs fs0 (fs0 ++ [(f, .tup xs)])) ⟨fun pins s σ H D I q => ?_⟩ (ih (.tup xs) rfl)) fun D σ H q => ?_
                  rotate_left
                  · obtain ⟨gs, es, st, tk, l, r, q⟩ := q
                    refine ⟨gs, es, st, tk, l, r, fun gs1 H1' st1 tk1 l1 r1 => ⟨gs1, es, st1, tk1, l1, r1, fun gs' H'' st'' tk'' r'' => q gs' H'' st'' tk'' ?_⟩⟩
                    rw [List.append_assoc] at r''
                    exact r''
                  obtain ⟨gs, es, st, tk, l, r, q⟩ := q
                  subst es
                  have sq : SqL X.K H b ys ∨ SqT X.K H b ys := by
                    rcases cs with ⟨_, _, sl⟩ | ⟨_, st0⟩
                    · exact .inl (sqL_keep st.1 sl)
                    · exact .inr (sqT_ext (tk.ext (n := 0) (ρ := fun _ => 0)) st0)
                  refine st_tuple T I h1a st (by omega) (hno _ List.mem_cons_self) h0 (hv _ (List.mem_of_getElem? h0)) a1 a2 slot0 hN (hv _ (List.mem_of_getElem? hN)) b1 b2 (slot (.ref b)) (hg _ List.mem_cons_self rfl) hm sq rfl fun s' H' c J st' tk' sq' => ?_
                  refine ⟨_, H', J, q ((Z.an f, .ref c) :: gs) H' st' (tkk tk tk') ?_ ?_⟩
                  · rw [List.length_cons, List.length_append, l]; rfl
                  · rw [List.reverse_cons]
                    exact RelFs.snoc (relD_tup.mpr ⟨c, ys, rfl, sq', rys.ext (tkk tk tk').ext⟩) (r.ext tk'.ext)
                · cases hf
              · cases hc1
            · cases hc1
          · cases hc1
        · cases hf
      · cases hc
end
end Pyi
set_option Elab.async false
set_option linter.all false
set_option maxRecDepth 100000
set_option maxHeartbeats 4000000
/-! an own exception made: the call -/
namespace Pyi
open PySem L2
/-- all that a class c of the table must have -/
structure ExF (O : Wo) (q : Cls) (C : Addr) : Prop where
  ex : ∃ (W fI cc cda : Addr) (B nw ini : String) (bmB : List Value) (qual : Str) (pr : Arguments) (rest : List Stmt) (sc : Scope) (ar : Arg) (N : List Str) (p0 p1 p2 p3 p4 : Pos) (arg : Expr),
    ExK O.K C W B nw ini bmB ∧ SupF O C fI cc cda qual pr (Stmt.Expr (.Call (.Attribute (.Call (.Name "super" p0) [] [] p1) "__init__" p2) [arg] [] p3) p4 :: rest) sc ar ∧ SupSc N sc ∧
    PySem.W.findIn O.K (.ref C) "__init__" = some (some (.ref fI)) ∧ PySem.W.typeIn O.K (.ref fI) = some (.type "function") ∧
    plainArgs pr = true ∧ pr.args.map (·.arg) = N ∧ N[0]? = some ar.arg ∧ N.length = q.np + 1 ∧ cMsg N arg = some q.msg ∧ cStores N rest = some (q.fld.map fun p => (O.Z.an p.1, p.2.1, p.2.2)) ∧
    (∀ p ∈ q.fld, PySem.W.findIn O.K (.ref C) (O.Z.an p.1) = some none) ∧ q.fld.length ≤ 900 ∧ q.np ≤ 900 ∧ (∀ p ∈ q.fld, p.2.2 = true → sc.names.lookup ("tuple" : Str) = some .globalImplicit) ∧ O.mg "tuple" = none ∧ (p2.endLine == p3.line) = true
theorem make_guards {A : Around} {C : Addr} {us : List Value} {kw : List (Str × Value)} (h : A.guards = some []) : (A.under (.builtin "type.__call__" ⟨.ref C :: us, kw⟩)).guards = some [] := by
  first | exact h | simpa [Around.under, Code.weight, Code.isCreation, Code.isGuard, Code.isCaller, Code.frames, Code.isFrame, guardIds] using h
theorem msg_ev {arg : Expr} {N : List Str} {ms : List Mp} (h : cMsg N arg = some ms) (env : Env) : starEach [arg] env = (false, eval arg env) :: starEach [] env := by
  unfold cMsg at h
  split at h
  · rfl
  · rfl
  · cases h
theorem msg_call {arg : Expr} {N : List Str} {ms : List Mp} {p0 p1 p2 p3 : Pos} (h : cMsg N arg = some ms) (hln : (p2.endLine == p3.line) = true) (env : Env) : ∃ pl : Sem Bool, eval (.Call (.Attribute (.Call (.Name "super" p0) [] [] p1) "__init__" p2) [arg] [] p3) env = (do
      let ov ← attributeBase (.Call (.Name "super" p0) [] [] p1) "__init__" env (eval (.Call (.Name "super" p0) [] [] p1) env)
      standAt p2.atName
      let (f, first) ← holding [ov] (getMethod ov "__init__" pl)
      callWith p3 f first (backTo p3 (starEach [arg] env)) []) := by
  refine ⟨do return (← importBound (.Call (.Name "super" p0) [] [] p1) env).getD true, ?_⟩
  have hp : methodCallPos true (.Call (.Name "super" p0) [] [] p1) env p2 p3 = pure p3 := by
    unfold methodCallPos
    simp [hln]
  have hf : methodCallForm ([arg].length + ([] : List Keyword).length) (backTo p3 (starEach [arg] env)) (backToKw p3 (keywordEach [] env)) = true := by
    rw [msg_ev h env]
    rfl
  rw [arm_eval_Call]
  unfold methodCall
  rw [hf, hp]
  rfl
theorem Good.fresh {K : PySem.W.Frag} {Z : Ad} {h : Hh} {ρ : Nat → Addr} {H : Hp} (g : Good K Z h ρ H) {p : Addr} {o : HO} (hp : H p = none) : Ext h.n h.n ρ ρ H (upd H p o) ∧ Good K Z h ρ (upd H p o) := by
  have x : Ext h.n h.n ρ ρ H (upd H p o) := ⟨Nat.le_refl _, fun _ _ => rfl, fun a xs e => keep_upd hp _ _ e, fun a o u e => keep_upd hp _ _ e⟩
  exact ⟨x, ⟨g.dom, g.out, g.inj, fun i o e => (g.obj i o e).ext x (fun _ => keep_upd hp _) (fun dx gs q => keep_upd hp _ _ q)⟩⟩
/-- the __init__ runs -/
theorem init_run {O : Wo} {q : Cls} {C a : Addr} {A : Around} {fr : List Env} {s : Shared} {H1 : Hp} {us : List Value} {vs : List V} {k : Nat} {h : Hh} {ρ : Nat → Addr} {ds : List D} {t : Nat} {fs : Fs} {R : Result → Shared → Prop} {fI : Addr} (F : ExF O q C)
    (hfI : PySem.W.findIn O.K (.ref C) "__init__" = some (some (.ref fI))) (hg : A.guards = some []) (hr : Room (k + 1) A) (e0 : Env0 O.P O.w O.K O.mg O.base A fr s (upd H1 a (exo a C none))) (r : Vals vs us) (h1a : H1 a = none) (g : Good O.K O.Z h ρ H1) (rd : RelDs O.K O.Z h.n ρ H1 ds vs)
    (hl : ds.length = q.np) (em : msgLen ds h q.msg 0 = some t) (ef : excFlds ds h q.fld = some fs)
    (hq : ∀ s' H' gs, s'.os = s.os → PyProof.Rows.AllBare s'.gens → Un (frs fr) [] (upd H1 a (exo a C none)) H' s.heap s'.heap → HOk O.P O.w H' s'.heap → FSt H1 a C gs H' → Tk H1 H' → RelFs O.K O.Z h.n ρ H' fs gs.reverse → R (.ok (.ret .none)) s') :
    codeAny (model O.P O.w) A (.call (.ref fI) ⟨.ref a :: us, []⟩) R s := by
  obtain ⟨W, fI', cc, cda, B, nw, ini, bmB, qual, pr, rest, sc, ar, N, p0, p1, p2, p3, p4, arg, T, SF, S, iC, tI, hp, hN, hN0, hNl, hm, hst, hno, hfl, hnp, htu, hmt, hln⟩ := F.ex
  rw [hfI] at iC
  obtain rfl : fI = fI' := by cases iC; rfl
  obtain ⟨oc, od, name, kV, doc, pm, an, ct, osl, lf⟩ := SF.fn
  obtain ⟨cl, cld, csl, lcell⟩ := SF.cell
  have kin : O.K.In s.heap := e0.mod.kin.keeps fun b o e => (e0.bs b o e).1
  have nol : s.heap.NoLimit := e0.mod.nolimit.keeps fun b o e => (e0.bs b o e).1
  have lvs : vs.length = q.np := by rw [rd.length]; exact hl
  have lus : us.length = q.np := by rw [Vals.len r]; exact lvs
  have r2 : Vals (V.ref a :: vs) (Value.ref a :: us) := .cons rfl r
  have lNu : (Value.ref a :: us).length = N.length := by rw [List.length_cons, lus, hNl]
  have lNv : (V.ref a :: vs).length = N.length := by rw [List.length_cons, lvs, hNl]
  have bd : bindArgs (PySem.W.ksFn name qual pr (Stmt.Expr (.Call (.Attribute (.Call (.Name "super" p0) [] [] p1) "__init__" p2) [arg] [] p3) p4 :: rest) sc .none kV doc pm an (.ref cda) ct cc) ⟨.ref a :: us, []⟩ = pure (N.zip (.ref a :: us)) := by
    obtain ⟨po, as, va, ko, kd, ka, df⟩ := pr
    subst hN
    exact binds_fd rfl rfl hp S.nd lNu
  have locs : ∀ x ∈ N.zip (Value.ref a :: us), sc.names.lookup x.1 = some .local := fun ⟨x, u⟩ hx => S.par x (List.of_mem_zip hx).1
  refine PySem.ks_codeAny_call_defAt hr.depth (kin _ _ lf) rfl nol (PySem.W.codeRec_of kin SF.code) rfl (BindsTo.of_eq bd) S.cell locs (fun h₀ hns kk => ?_) S.co S.gen S.kind
  have I := inv_sup (xe := fun e s' => wpAny (model O.P O.w) (A.deeper (PySem.W.ksEnv qual sc s.heap.objs.size fI (.ref cda) cc)) (leaving (PySem.W.ksEnv qual sc s.heap.objs.size fI (.ref cda) cc) e) (fun _ s'' => R (.error e) s'') (fun e' s'' => R (.error e') s'') s')
    (tk := s.toks + (N.zip (Value.ref a :: us)).length) (fI := fI) (qual := qual) (cdv := .ref cda) S hr.hd e0 lNv r2 lcell hns kk
  obtain ⟨x1, g1⟩ := g.fresh (o := exo a C none) h1a
  have rs : RelS O.K O.Z h.n ρ (upd H1 a (exo a C none)) (none :: ds.map some) ((V.ref a :: vs).map some) := by
    refine ⟨by simp [rd.length], fun i d e => ?_⟩
    cases i with
    | zero => cases e
    | succ i =>
      rw [List.getElem?_cons_succ, List.getElem?_map] at e
      cases ed : ds[i]? with
      | none => rw [ed] at e; cases e
      | some d' =>
        rw [ed] at e
        cases e
        obtain ⟨v, hv, rv⟩ := rd.get ed
        exact ⟨v, by rw [List.map_cons, List.getElem?_cons_succ, List.getElem?_map, hv]; rfl, rv.ext x1⟩
  have hu : (A.deeper (PySem.W.ksEnv qual sc s.heap.objs.size fI (.ref cda) cc)).units + 64 < cLine := (hr.deeper _).units
  have hvis : ∀ x ∈ N, Vis sc x := fun x hx => .inl (S.par x hx)
  obtain ⟨pl, hev⟩ := msg_call (p0 := p0) (p1 := p1) (p2 := p2) (p3 := p3) hm hln (PySem.W.ksEnv qual sc s.heap.objs.size fI (.ref cda) cc)
  refine PySem.ks_wpAt_execs_cons (sup_stmt T SF S.kind I hN0 rfl upd_same (pe_msg (Z := O.Z) (ds := ds) hg hu hvis hm g1 rs em) (msg_ev hm _) hev rfl fun s' J => ?_)
  refine PySem.wpAt_of_wpAny ?_
  refine wpAny_mono ((pss_flds (X := cxS O N (A.deeper (PySem.W.ksEnv qual sc s.heap.objs.size fI (.ref cda) cc)) (PySem.W.ksEnv qual sc s.heap.objs.size fI (.ref cda) cc) fr s (upd H1 a (exo a C none)) _) (fs0 := []) T h1a hvis hmt g rd htu hst hno (by simpa using hfl) ef).run [] s' _ _ { nx := fun σ' H' => ∃ gs, FSt H1 a C gs H' ∧ Tk H1 H' ∧ RelFs O.K O.Z h.n ρ H' fs gs.reverse, rt := fun _ _ => False } J ⟨[], rfl, ⟨fun b u e => keep_upd h1a _ _ e, .inl ⟨rfl, upd_same⟩⟩, ⟨fun b xs e => keep_upd h1a _ _ e, fun b o u e => keep_upd h1a _ _ e⟩, rfl, rfl, fun gs' H' st tk rf => ⟨gs', st, tk, rf⟩⟩) (fun fl s'' hs => ?_) fun _ _ z => z
  cases fl with
  | next =>
    obtain ⟨σ', H', J', gs, st, tk, rf⟩ := hs
    exact hq s'' H' gs J'.os J'.bare J'.base J'.hok st tk rf
  | ret u => obtain ⟨_, _, _, _, _, z⟩ := hs; exact z.elim
  | brk => obtain ⟨_, _, _, z⟩ := hs; exact z.elim
  | cont => obtain ⟨_, _, _, z⟩ := hs; exact z.elim
section
variable {X : Cx} {Z : Ad} {T : Tab} {cl : Nat → List D → Hh → R D} {W : WX} {pos pf : Pos} {c k : Nat} {x : Str} {q : Cls}
theorem call_exc {pins : List (Addr × Obj)} {σ : L2.St} {H1 : Hp} {s : Shared} {Q : VK} {us : List Value} {vs : List V} (hq : T.clss[c]? = some q) (F : ExF (woOf X Z) q (Z.ca c)) (hgd : X.A.guards = some []) (hr : Room (k + 2) X.A) (I1 : Inv X pins σ H1 s) (r : Vals vs us)
    (h : rPs X.K Z (mkExc T c) vs H1 Q) : wpAny (model X.prog X.w) X.A (call (.ref (Z.ca c)) us) (EP X pins σ Q) X.xe s := by
  obtain ⟨ρ, h0, ds, g, rd, d', h', hr', hQ⟩ := h
  unfold mkExc at hr'
  rw [hq] at hr'
  have hr' : (if (q.exc && decide (ds.length = q.np)) = true then (match msgLen ds h0 q.msg 0, excFlds ds h0 q.fld with
      | some _, some fs => some (D.ref h0.n, h0.new (.exo c fs))
      | _, _ => none) else none) = some (d', h') := hr'
  split at hr'
  · rename_i hc
    simp only [Bool.and_eq_true, decide_eq_true_eq] at hc
    split at hr'
    · rename_i t fs em ef
      cases hr'
      obtain ⟨W, fI, cc, cda, B, nw, ini, bmB, qual, pr, rest, sc, ar, N, p0, p1, p2, p3, p4, arg, TK, SF, S, iC, tI, hp, hN, hN0, hNl, hm, hst, hno, hfl, hnp, htu, hmt, hln⟩ := F.ex
      obtain ⟨nm, q', N', bs, sn, sub, ab, col, dd, k0, k1, k2, k3, k5, lC⟩ := TK.cls
      have kin := I1.kIn
      obtain ⟨hp', gn, dr, tk, os⟩ := s
      have lus : us.length ≤ sizeLine := by
        rw [Vals.len r, rd.length, hc.2, sizeLine_eq]
        omega
      have hsz : hp'.objs.size ≤ hp'.objs.size + 1 := Nat.le_succ _
      have h1a : H1 (hp'.objs.size + 1) = none := I1.hok.fresh hsz
      have kk : ∀ b o, hp'.get? b = some o → ((hp'.push (PySem.W.kdv_tup us)).push (PySem.HandSPX.excO (Z.ca c) hp'.objs.size)).get? b = some o := fun b o e => Heap.get?_push_of_some _ (Heap.get?_push_of_some _ e)
      have hget : ((hp'.push (PySem.W.kdv_tup us)).push (PySem.HandSPX.excO (Z.ca c) hp'.objs.size)).get? (hp'.objs.size + 1) = some (PySem.HandSPX.excO (Z.ca c) hp'.objs.size) := by heap_get
      have I2 := I1.laid (t' := tk) (a := hp'.objs.size + 1) (o := exo (hp'.objs.size + 1) (Z.ca c) none) (h' := (hp'.push (PySem.W.kdv_tup us)).push (PySem.HandSPX.excO (Z.ca c) hp'.objs.size)) kk hsz (exo_ok hget)
      have hT : ∀ Y : String, (Value.ref W :: bmB).contains (.type Y) = bmB.contains (.type Y) := fun Y => by
        rw [List.contains_cons]
        simp
      refine wpAny_call (PySem.HandSPX.call_own TK.b.fb hT (kin _ _ lC) (PySem.W.looks_findIn kin iC) (fun self => PySem.W.bind_fn kin self tI) lus ?_)
      refine init_run F iC (make_guards hgd) (hr.make _ us []) (I2.env0.make _ us []) r h1a g rd hc.2 em ef fun s' H' gs hos hb hun hok st tks rf => ?_
      refine ⟨rfl, I2.after ⟨.ref (hp'.objs.size + 1), H', hos, hb, hun, hok, rfl, ?_⟩⟩
      obtain ⟨x1, g1⟩ := g.new (o := .exo c fs) h1a st.1 (fun x1 => by
        have rf' := rf.ext (n' := h0.n + 1) (ρ' := bump ρ h0.n (hp'.objs.size + 1)) (H' := H') ⟨x1.le, x1.eq, fun _ _ e => e, fun _ _ _ e => e⟩
        rcases st.2 with ⟨eg, ea⟩ | ⟨dx, _, _, ea, ed⟩
        · refine .inl ⟨?_, ea⟩
          subst eg
          cases fs with
          | nil => rfl
          | cons p fs => obtain ⟨_, _, z, _⟩ := rf; cases z
        · exact .inr ⟨dx, gs, ea, ed, rf'⟩)
      exact hQ _ _ _ x1 g1 (relD_ref.mpr ⟨Nat.lt_succ_self _, congrArg V.ref bump_self.symm⟩)
    · cases hr'
  · cases hr'
theorem pe_nMexc {e : Expr} {es : List Expr} {ei : Es} (hq : T.clss[c]? = some q) (F : ExF (woOf X Z) q (Z.ca c)) (hkC : PySem.W.keepIn X.K (.ref (Z.ca c)) = true) (hgd : X.A.guards = some []) (hr : Room (k + 2) X.A) (hg : Gl X x) (hm : X.mg x = some (.ref (Z.ca c))) (hdb : (x == ("__debug__" : Str)) = false)
    (ha : PA X (e :: es) (tEs X Z T cl W ei)) (he : starEach (e :: es) X.env = (false, eval e X.env) :: starEach es X.env) (hpl : (backTo pos (starEach es X.env)).any (·.1) = false) : PE X (.Call (.Name x pf) (e :: es) [] pos) (tE X Z T cl W (.mexc c ei)) := by
  constructor
  intro pins s σ H Q I h
  apply wpAny_Call_Name_kw
  refine ld_glob I hg hm ?_ hdb
  refine PySem.W.callWith_K I.ok.mod.kin hkC ?_ he hpl
  refine thn (ha.run pos pins s σ H _ I (tP (f := mkExc T c) (es := ei) h)) fun us s1 qq => ?_
  obtain ⟨vs, H1, I1, r, qq⟩ := qq
  exact ⟨I1.kIn, call_exc hq F hgd hr I1 r qq⟩
theorem pe_nMexc0 (hq : T.clss[c]? = some q) (F : ExF (woOf X Z) q (Z.ca c)) (hkC : PySem.W.keepIn X.K (.ref (Z.ca c)) = true) (hgd : X.A.guards = some []) (hr : Room (k + 2) X.A) (hg : Gl X x) (hm : X.mg x = some (.ref (Z.ca c))) (hdb : (x == ("__debug__" : Str)) = false) :
    PE X (.Call (.Name x pf) [] [] pos) (tE X Z T cl W (.mexc c .nil)) := by
  constructor
  intro pins s σ H Q I h
  apply wpAny_Call_Name_kw
  refine ld_glob I hg hm ?_ hdb
  exact PySem.W.callWith_K0 I.kIn hkC (call_exc (us := []) hq F hgd hr I .nil (tIs_nil (tP (f := mkExc T c) (es := .nil) h)))
end
end Pyi
set_option Elab.async false
set_option linter.all false
set_option maxRecDepth 100000
set_option maxHeartbeats 2000000
/-! repr, slices, == [], isinstance, an exception's field -/
namespace Pyi
open PySem L2
section
variable {X : Cx} {Z : Ad} {T : Tab} {cl : Nat → List D → Hh → R D} {W : WX} {pos : Pos}
theorem call_pRepr (hgd : X.A.guards = some []) (hu : X.A.units + 64 < cLine) : CallR X (.builtin "repr") (rPs X.K Z (prim T .repr)) := callR1 ⟨by simp, by simp⟩ (fun _ _ _ => rfl) (fun _ _ _ _ => rfl) (by
  intro pins s σ H xs us Q I r ⟨x, e1, ρ, h, d, g, rd, d', h', hr, hq⟩
  have hr : (showR h d).map (fun t => (D.str t, h)) = some (d', h') := hr
  subst e1
  obtain ⟨u, rfl, ru⟩ := vals1 r
  cases e : showR h d with
  | none => rw [e] at hr; cases hr
  | some t =>
    rw [e] at hr
    cases hr
    exact reprCall_ok I g rd ru e hgd (by omega) fun h' tk tk' k => ⟨.str t, H, I.kept k, ⟨_, rfl⟩, hq ρ H _ Ext.refl g (relD_str.mpr rfl)⟩)
/-! ### slices of lists -/
/-- xs[:k], k a number of the text -/
theorem pe_nTake {a : Expr} {ea : E} {k : Int} {j : Nat} {p1 p2 : Pos} (ha : PE X a (tE X Z T cl W ea)) : PE X (.Subscript a (.Slice none (some (.Constant (.int k) j p1)) none p2) pos) (tE X Z T cl W (.prim .slice (.cons ea (.cons (.con .non) (.cons (.con (.int k)) .nil))))) :=
  pe_mono (pe_slice sl_list ha po_none (po_some pe_int)) fun σ H Q h => by
    have h : tI X.K Z W (fun σ h => ((evalE T cl ea σ h).bind fun d h1 => .ok [d, .non, .int k] h1).bind fun ds h1 => R.of (prim T .slice ds h1)) σ H Q := h
    have h2 : tI X.K Z W (fun σ h => (evalE T cl ea σ h).bind fun d h1 => R.of (pSlice d .non (.int k) h1)) σ H Q := by
      obtain ⟨ρ, σI, h0, g, rs, s⟩ := h
      refine ⟨ρ, σI, h0, g, rs, ?_⟩
      dsimp only at s ⊢
      cases e : evalE T cl ea σI h0 with
      | bad => rw [e] at s; exact s
      | exc c fs h1 => rw [e] at s; exact s
      | ok d h1 => rw [e] at s; exact s
    obtain ⟨ρ, σI, h0, g, rs, s⟩ := tG.bind (rel1 := RelD X.K Z) (e := evalE T cl ea) (k := fun _ d h1 => R.of (pSlice d .non (.int k) h1)) h2
    refine ⟨ρ, σI, h0, g, rs, s.mono (fun v H1 q => ?_) fun _ _ _ q => q⟩
    obtain ⟨ρ1, σ1, h1, d, g1, _, rd, s1⟩ := q
    obtain ⟨d', h', hr, hq⟩ := s1.of_po
    refine ⟨k, rfl, ?_⟩
    unfold pSlice at hr
    split at hr
    · rename_i l u b el eu
      cases el
      cases eu
      split at hr
      · rename_i xs hx
        cases hr
        obtain ⟨ys, sl, ry⟩ := g1.sqL hx
        refine ⟨_, ys, (relD_ref.mp rd).2, sl, fun p hp => ?_⟩
        obtain ⟨x1, g2, r2⟩ := g1.newLst (xs := (xs.drop (HT.sIx xs.length 0 none)).take (HT.sIx xs.length xs.length (some k) - HT.sIx xs.length 0 none)) (ys := cutV ys none (some k)) hp (by
          unfold cutV
          rw [ry.length]
          exact (ry.drop _).take _)
        exact hq _ _ _ x1 g2 r2
      · cases hr
    · cases hr
/-! ### x == [], x != [] -/
/-- by the data -/
def rD (K : PySem.W.Frag) (neg : Bool) : R2 := fun x y H Q => ∃ p q, Dp K H x p ∧ Dp K H y q ∧ SeqAt.shaped p = true ∧ SeqAt.shaped q = true ∧ Q (.bl (neg != PyData.eqv p q)) H
theorem op_rEq (hu : X.A.units + 64 < cLine) : OpR X (compareOp .Eq) (rD X.K false) := by
  intro pins s σ H x y v u Q I rx ry ⟨p, q, h1, h2, h3, h4, hq⟩
  refine op_eqD hu pins s σ H x y v u Q I rx ry ⟨p, q, h1, h2, h3, h4, ?_⟩
  cases e : PyData.eqv p q <;> (rw [e] at hq; exact hq)
theorem op_rNe (hu : X.A.units + 64 < cLine) : OpR X (compareOp .NotEq) (rD X.K true) := by
  intro pins s σ H x y v u Q I rx ry ⟨p, q, h1, h2, h3, h4, hq⟩
  refine op_neD hu pins s σ H x y v u Q I rx ry ⟨p, q, h1, h2, h3, h4, ?_⟩
  cases e : PyData.eqv p q <;> (rw [e] at hq; exact hq)
theorem emp_mid {neg : Bool} {p : P} {ea : E} (hp : ∀ x h, prim T p [x] h = pEqE neg x h) {σ : L2.St} {H : Hp} {Q : VK} (h : tE X Z T cl W (.prim p (.cons ea .nil)) σ H Q) : tOp (rD X.K neg) (tE X Z T cl W ea) (tLst tNil) σ H Q := by
  have q := tP1 (f := prim T p) (a := ea) h
  rw [show (fun d h => prim T p [d] h) = pEqE neg from funext fun d => funext fun h => hp d h] at q
  obtain ⟨ρ, σI, h0, g, rs, s⟩ := q
  refine ⟨ρ, σI, h0, g, rs, s.mono (fun v H1 q => ?_) fun _ _ _ q => q⟩
  obtain ⟨ρ1, h1, d, g1, rd, d', h', hr, hq⟩ := q
  refine ⟨Nat.zero_le _, fun l hl => ?_⟩
  obtain ⟨x1, g2⟩ := g1.fresh (o := .lst []) hl
  unfold pEqE at hr
  split at hr
  · rename_i p1 hp1
    split at hr
    · rename_i hsh
      cases hr
      exact ⟨p1, .list [], data_dp g2 40 hp1 (rd.ext x1), .lst (.inl (.inl upd_same)) .nil, hsh, rfl, hq ρ1 _ _ x1 g2 (relD_bl.mpr rfl)⟩
    · cases hr
  · cases hr
theorem pe_emp {neg : Bool} {op : CmpOp} {p : P} {a : Expr} {ea : E} {pl : Pos} (hp : ∀ x h, prim T p [x] h = pEqE neg x h) (ho : OpR X (compareOp op) (rD X.K neg)) (ha : PE X a (tE X Z T cl W ea)) (hm : behindInMarks op (.List [] pl) = false) :
    PE X (.Compare a [op] [.List [] pl] pos) (tE X Z T cl W (.prim p (.cons ea .nil))) :=
  pe_mono (pe_cmpR ho ha (pe_lst pa_nil) hm) fun σ H Q h => emp_mid hp h
theorem pt_emp {neg : Bool} {op : CmpOp} {p : P} {a : Expr} {ea : E} {pl : Pos} (hp : ∀ x h, prim T p [x] h = pEqE neg x h) (ho : OpR X (compareOp op) (rD X.K neg)) (ha : PE X a (tE X Z T cl W ea)) (hm : behindInMarks op (.List [] pl) = false) :
    PT X (.Compare a [op] [.List [] pl] pos) (tT X Z T cl W (.prim p (.cons ea .nil))) :=
  pt_mono (pt_cmpR (r := rD X.K neg) ho ha (pe_lst pa_nil) hm) fun σ H Q h => by
    have q := tTru (X := X) (e := fun σ h => (evalEs T cl (.cons ea .nil) σ h).bind fun ds h1 => R.of (prim T p ds h1)) h
    obtain ⟨ρ, σI, h0, g, rs, s⟩ := emp_mid (X := X) (Z := Z) (cl := cl) (W := W) (ea := ea) hp q
    refine ⟨ρ, σI, h0, g, rs, s.mono (fun v H1 q => ?_) fun _ _ _ q => q⟩
    obtain ⟨hz, q⟩ := q
    refine ⟨hz, fun l hl => ?_⟩
    obtain ⟨p1, q1, a1, a2, a3, a4, k, tk, qk⟩ := q l hl
    have tk : k = (neg != PyData.eqv p1 q1) := tk
    exact ⟨p1, q1, a1, a2, a3, a4, _, rfl, tk ▸ qk⟩
/-! ### repr(a) == repr(b) -/
def rep1 (K : PySem.W.Frag) (Z : Ad) : V → Hp → VK → Prop := fun v H Q => ∃ ρ h d t, Good K Z h ρ H ∧ RelD K Z h.n ρ H d v ∧ showR h d = some t ∧ Q (.str t) H
theorem call_rep1 (hgd : X.A.guards = some []) (hu : X.A.units + 64 < cLine) : CallR X (.builtin "repr") (fun xs H Q => ∃ x, xs = [x] ∧ rep1 X.K Z x H Q) := by
  intro pins s σ H xs us Q I r ⟨x, e1, ρ, h, d, t, g, rd, e, q⟩
  subst e1
  obtain ⟨u, rfl, ru⟩ := vals1 r
  exact reprCall_ok I g rd ru e hgd (by omega) fun h' tk tk' k => ⟨.str t, H, I.kept k, ⟨_, rfl⟩, q⟩
abbrev tRp (K : PySem.W.Frag) (Z : Ad) (ta : TE) : TE := tCB (fun xs H Q => ∃ x, xs = [x] ∧ rep1 K Z x H Q) (tCons ta tNil)
theorem pe_rep1 {a : Expr} {ta : TE} {p1 p2 : Pos} (hgd : X.A.guards = some []) (hu : X.A.units + 64 < cLine) (hg : Gl X "repr") (hm : X.mg "repr" = none) (ha : PE X a ta) (hs : starEach [a] X.env = (false, eval a X.env) :: starEach [] X.env) :
    PE X (.Call (.Name "repr" p1) [a] [] p2) (tRp X.K Z ta) := pe_callB (call_rep1 (Z := Z) hgd hu) hg hm (by decide +kernel) (pa_cons ha pa_nil hs) (by decide) (by decide) hs rfl
def opN : Bool → CmpOp
  | true => .NotEq
  | false => .Eq
/-- texts compared -/
def rS (neg : Bool) : R2 := fun x y H Q => scal x y = true ∧ Q (.bl (neg != decide (x = y))) H
theorem op_rS (neg : Bool) : OpR X (compareOp (opN neg)) (rS neg) := by
  cases neg with
  | false =>
    intro pins s σ H x y v u Q I rx ry ⟨h1, h2⟩
    refine op_eq pins s σ H x y v u Q I rx ry ⟨h1, ?_⟩
    cases e : decide (x = y) <;> (rw [e] at h2; exact h2)
  | true =>
    intro pins s σ H x y v u Q I rx ry ⟨h1, h2⟩
    refine op_ne pins s σ H x y v u Q I rx ry ⟨h1, ?_⟩
    cases e : decide (x = y) <;> (rw [e] at h2; exact h2)
theorem cmpR_mid {neg : Bool} {ea eb : E} {σ : L2.St} {H : Hp} {Q : VK} (h : tE X Z T cl W (.cmpR neg ea eb) σ H Q) :
    tOp (rS neg) (tRp X.K Z (tE X Z T cl W ea)) (tRp X.K Z (tE X Z T cl W eb)) σ H Q := by
  obtain ⟨ρ, σI, h0, g, rs, s⟩ := tG.bind (rel1 := RelD X.K Z) (e := evalE T cl ea) (k := fun σ x h1 => cmpK neg (evalE T cl eb σ) x h1) h
  refine ⟨ρ, σI, h0, g, rs, s.mono (fun v H1 q => ?_) fun _ _ _ q => q⟩
  obtain ⟨ρ1, σ1, h1, d, g1, rs1, rd, s1⟩ := q
  have s1 : Sat X.K Z (RelD X.K Z) h1.n ρ1 H1 (match lenD h1 d with
    | some p => (evalE T cl eb σ1 h1).bind (cmpK2 neg p.1)
    | none => .bad) Q _ := s1
  cases el : lenD h1 d with
  | none => rw [el] at s1; exact s1.elim
  | some p =>
    rw [el] at s1
    refine ⟨v, rfl, ρ1, h1, d, p.1.shown, g1, rd, by unfold showR; rw [el]; rfl, ?_⟩
    refine ⟨ρ1, σ1, h1, g1, rs1, (Sat.bind (rel1 := RelD X.K Z) (h := h1) s1).mono (fun v2 H2 q2 => ?_) fun _ _ _ q => q⟩
    obtain ⟨ρ2, h2, d2, x2, g2, rd2, s2⟩ := q2
    have s2 : Sat X.K Z (RelD X.K Z) h2.n ρ2 H2 (match lenD h2 d2 with
      | some q => match dEq p.1 q.1 with
        | true => .ok (.bl (neg != true)) h2
        | false => .bad
      | none => .bad) Q _ := s2
    cases el2 : lenD h2 d2 with
    | none => rw [el2] at s2; exact s2.elim
    | some q =>
      rw [el2] at s2
      refine ⟨v2, rfl, ρ2, h2, d2, q.1.shown, g2, rd2, by unfold showR; rw [el2]; rfl, ?_⟩
      have s2 : Sat X.K Z (RelD X.K Z) h2.n ρ2 H2 (match dEq p.1 q.1 with
        | true => .ok (.bl (neg != true)) h2
        | false => .bad) Q _ := s2
      cases ed : dEq p.1 q.1 with
      | false => rw [ed] at s2; exact s2.elim
      | true =>
        rw [ed] at s2
        have epq := dEq_ok _ _ ed
        rw [epq]
        refine ⟨rfl, ?_⟩
        rw [decide_eq_true (rfl : V.str q.1.shown = V.str q.1.shown)]
        exact s2 ρ2 H2 _ Ext.refl g2 (relD_bl.mpr rfl)
theorem mono_tI {e : St → Hh → R D} {σ : L2.St} {H : Hp} {Q Q' : VK} (h : tI X.K Z W e σ H Q) (i : ∀ v H, Q v H → Q' v H) : tI X.K Z W e σ H Q' := by
  obtain ⟨ρ, σI, h0, g, rs, s⟩ := h
  exact ⟨ρ, σI, h0, g, rs, s.mono i fun _ _ _ q => q⟩
theorem rep1_mono {v : V} {H : Hp} {Q Q' : VK} (h : rep1 X.K Z v H Q) (i : ∀ v H, Q v H → Q' v H) : rep1 X.K Z v H Q' := by
  obtain ⟨ρ, h0, d, t, g, rd, e, q⟩ := h
  exact ⟨ρ, h0, d, t, g, rd, e, i _ _ q⟩
theorem pe_cmpRp {neg : Bool} {op : CmpOp} {a b : Expr} {ea eb : E} (hop : op = opN neg) (ha : PE X a (tRp X.K Z (tE X Z T cl W ea))) (hb : PE X b (tRp X.K Z (tE X Z T cl W eb))) (hm : behindInMarks op b = false) :
    PE X (.Compare a [op] [b] pos) (tE X Z T cl W (.cmpR neg ea eb)) ∧ PT X (.Compare a [op] [b] pos) (tT X Z T cl W (.cmpR neg ea eb)) := by
  subst hop
  refine ⟨pe_mono (pe_cmpR (op_rS neg) ha hb hm) fun σ H Q h => cmpR_mid h, pt_mono (pt_cmpR (r := rS neg) (op_rS neg) ha hb hm) fun σ H Q h => ?_⟩
  have q := cmpR_mid (X := X) (Z := Z) (T := T) (cl := cl) (W := W) (neg := neg) (ea := ea) (eb := eb) (tTru (X := X) (e := evalE T cl (.cmpR neg ea eb)) h)
  refine mono_tI q fun v H1 q1 => ?_
  obtain ⟨x, ex, q1⟩ := q1
  refine ⟨x, ex, rep1_mono q1 fun v1 H2 q2 => mono_tI q2 fun v2 H3 q3 => ?_⟩
  obtain ⟨y, ey, q3⟩ := q3
  refine ⟨y, ey, rep1_mono q3 fun v3 H4 q4 => ?_⟩
  obtain ⟨sc, k, tk, qk⟩ := q4
  have tk : k = (neg != decide (v1 = v3)) := tk
  exact ⟨sc, _, rfl, tk ▸ qk⟩
end
end Pyi
set_option Elab.async false
set_option linter.all false
set_option maxRecDepth 100000
set_option maxHeartbeats 4000000
/-! isinstance of an own exception; its fields -/
namespace Pyi
open PySem PySem.W PySem.Calls PyProof.Rows
section
variable {prog : Program} {w : World} {A : Around} {E : Value → Shared → Prop} {s : Shared} {K : Frag} {x D : Addr} {ox : Obj} {od : Option Obj}
theorem kin_classG {Q : Option Value → Shared → Prop} (c : L2.ExcC K D) (kin : K.In s.heap) (ix : InstAt s.heap x ox D od) (h : Q (some (.ref D)) { s with toks := s.toks + 1 }) : wpAny (model prog w) A (getAttr? (.ref x) "__class__") Q E s := by
  have isc : (clsIn K D).isSome = true := by
    obtain ⟨cd, hc, _⟩ := any_some c.hd
    rw [hc]
    rfl
  have hf : findObj K D od "__class__" = some (.bind (.builtin "getset_descriptor.__get__") (.builtin "object.__class__")) := by
    cases od with
    | none => exact findObj_dataN isc c.ha c.hn c.ht
    | some o => exact findObj_data isc c.ha c.hn c.ht
  obtain ⟨hp, g, dr, t, os⟩ := s
  have ty := ix.type (M := model prog w)
  have la := looks_findIn (M := model prog w) kin c.hg
  have lb := looks_findIn (M := model prog w) kin c.hk
  have lf := looks_find (M := model prog w) kin ix hf
  have sub : Looks (model prog w) hp (isInstance (.ref x) (.type "BaseException")) true := ty.andThen (looks_subIn kin c.hs)
  have z2 : (Value.builtin "BaseException.__getattribute__" == Value.builtin "object.__getattribute__") = false := by decide +kernel
  have z1 : (onTheHeap (Value.ref D) && Value.builtin "BaseException.__getattribute__" == Value.builtin "object.__getattribute__") = false := by rw [z2]; rfl
  unfold getAttr? getAttrBy? getAttrBy
  apply wpAny_bind
  refine wpAny_mkText ?_
  refine wpAny_bind (wpAny_attempt (wpAny_holding ?_))
  apply wpAny_bind
  refine ty.at ?_
  apply wpAny_bind
  refine la.at ?_
  show wpAny _ _ (if (onTheHeap (Value.ref D) && Value.builtin "BaseException.__getattribute__" == Value.builtin "object.__getattribute__") = true then _ else _) _ _ _
  rw [z1, if_neg Bool.false_ne_true]
  unfold getAttrByItsOwn hookBefore
  refine wpAny_bind ?_
  rw [if_pos (show onTheHeap (Value.ref D) = true from rfl)]
  refine lb.at ?_
  refine wpAny_bind (wpAny_attempt (wpAny_holding ?_))
  unfold callGetattribute
  rw [if_neg (show ¬ ((false && onTheHeap (Value.builtin "BaseException.__getattribute__")) = true) from Bool.false_ne_true)]
  unfold boundAndCalled
  rw [PySem.F.excAttr_ValueError.ga.bind (.ref x)]
  refine wpAny_bind (wpAny_pure ?_)
  show wpAny _ _ (call (.builtin "BaseException.__getattribute__") [.ref x, .str "__class__" t]) _ _ _
  apply wpAny_call
  apply codeAny_call_builtin PySem.F.excAttr_ValueError.ga.plain PySem.F.entry_bexc_ga
  refine @check_slot (model prog w) _ _ ⟨hp, g, dr, t + 1, os⟩ "BaseException.__getattribute__" "BaseException" "__getattribute__" (.ref x) [.str "__class__" t] [] _ (by decide +kernel) (by decide +kernel) sub (PySem.F.args_bexc_ga (.ref x) (.str "__class__" t)) ?_
  unfold Builtin.«object.__getattribute__»
  refine wpAny_bind (wpAny_of_eq (a := ((Value.ref x : Value), [Value.str "__class__" t])) (by first | rfl | (simp only [slotArgs]; rfl)) ?_)
  apply wpAny_bind
  refine wpAny_pure ?_
  apply wpAny_bind
  refine ty.at ?_
  apply wpAny_bind
  refine lf.at ?_
  show wpAny _ _ (holding [Value.builtin "object.__class__"] (call (.builtin "getset_descriptor.__get__") [.builtin "object.__class__", .ref x, .ref D]) >>= ret) _ _ _
  refine wpAny_bind (wpAny_holding (wpAny_call (class_get (s := ⟨hp, g, dr, t + 1, os⟩) (ox := ox) (od := od) kin ix c.hm ?_)))
  refine wpAny_pure ?_
  show wpAny _ _ (handedOut (.ref D)) _ _ _
  rw [handedOut_of (v := .ref D) rfl]
  first
    | exact wpAny_pure (wpAny_pure h)
    | exact wpAny_pure h
    | exact wpAny_pure (wpAny_bind (wpAny_pure (wpAny_pure h)))
theorem kitxG (c : L2.ExcC K D) : KitX K (.ref x) (.ref D) (fun h => InstAt h x ox D od) := by
  obtain ⟨cd, hc, _⟩ := any_some c.hd
  constructor
  case ty => exact fun _ _ _ ix => ix.type
  case it =>
    intro M h kin _
    unfold clsIn at hc
    split at hc
    · rename_i ho
      intro A' Q' E' s' k q
      unfold isType loadHead
      exact wpAny_bind (wpAny_loadPart (k _ _ (kin _ _ ho)) (wpAny_pure q))
    · cases hc
  case ne =>
    intro h tp dd its n sl kin htp
    refine Bool.eq_false_iff.mpr fun q => ?_
    have e : D = tp := Value.ref.inj (beq_iff_eq.mp q)
    subst e
    unfold clsIn at hc
    split at hc
    · rename_i ho
      have z := (kin _ _ ho).symm.trans htp
      cases z
    · cases hc
  case ca => exact fun kin ix k => kin_classG c kin ix k
end
end Pyi
namespace Pyi
open PySem L2
section
variable {X : Cx} {Z : Ad} {T : Tab} {cl : Nat → List D → Hh → R D} {W : WX} {pos : Pos} {pins : List (Addr × Obj)} {σ : L2.St} {H : Hp} {s : Shared}
/-- an own exception stands -/
theorem exo_inst {a C : Addr} {n : Nat} {ρ : Nat → Addr} {c : Nat} {fs : Fs} (I : Inv X pins σ H s) (h : RelE X.K Z n ρ H a c fs) : ∃ ox od, PySem.W.InstAt s.heap a ox (Z.ca c) od := by
  rcases h with ⟨_, e⟩ | ⟨dx, gs, e, ed, _⟩
  · obtain ⟨t1, ho⟩ := exo_at I.hok e
    exact ⟨_, none, ho, rfl, rfl, trivial⟩
  · obtain ⟨t1, ho⟩ := exo_at I.hok e
    obtain ⟨mA, hns, rel⟩ := exd_at I.hok ed
    obtain ⟨oD, _, _, hoD, _, _⟩ := hns.count (within_of rel)
    exact ⟨_, some oD, ho, rfl, rfl, hoD⟩
/-- what the table must say of t, whose value is cv -/
structure IsF (K : PySem.W.Frag) (Z : Ad) (T : Tab) (t : Ty) (cv : Value) : Prop where
  ok : ∀ k q, T.clss[k]? = some q → q.exc = true → PySem.W.kitOne K (.ref (Z.ca k)) cv = some (q.mro.contains t)
theorem call_pIs {t : Ty} {cv : V} {cu : Value} (hcu : ∀ u, RelV cv u → u = cu) (F : IsF X.K Z T t cu) (C : ∀ k q, T.clss[k]? = some q → q.exc = true → ExcC X.K (Z.ca k)) :
    CallR X (.builtin "isinstance") (fun xs H Q => ∃ x, xs = [x, cv] ∧ rP1 X.K Z (prim1 T (.isin [t])) x H Q) := by
  intro pins s σ H xs us Q I r ⟨x, e1, ρ, h, d, g, rd, d', h', hr, hq⟩
  subst e1
  have hr : pIsin T [t] d h = some (d', h') := hr
  match us, r with
  | [u1, u2], .cons r1 (.cons r2 .nil) =>
    have e2 := hcu _ r2
    subst e2
    unfold pIsin isTy at hr
    cases d with
    | ref a =>
      obtain ⟨_, e⟩ := relD_ref.mp rd
      subst e
      obtain rfl : u1 = Value.ref (ρ a) := r1
      cases ef : h.f a with
      | none => simp [ef] at hr
      | some o =>
        cases o with
        | exo k fs =>
          simp only [ef] at hr
          cases eq : T.clss[k]? with
          | none => simp [eq] at hr
          | some q =>
            simp only [eq, Option.bind_some] at hr
            by_cases hx : q.exc = true
            · simp only [hx, if_true] at hr
              cases hr
              obtain ⟨ox, od, ix⟩ := exo_inst (C := Z.ca k) I (g.obj a _ ef)
              exact PySem.W.kia_one (kitxG (od := od) (ox := ox) (C k q eq hx)) I.kIn ix (F.ok k q eq hx) (fun z => nomatch z) fun tk => ⟨.bl _, H, I.kept (t' := tk) fun _ _ z => z, rfl, hq ρ H _ Ext.refl g (relD_bl.mpr rfl)⟩
            · simp [hx] at hr
        | lst xs => simp [ef] at hr
        | frz xs => simp [ef] at hr
        | dic xs => simp [ef] at hr
        | ins c fs => simp [ef] at hr
    | non => simp at hr
    | bl b => simp at hr
    | int i => simp at hr
    | str x => simp at hr
    | tup xs => simp at hr
    | cls c => simp at hr
theorem pe_nIsin {t : Ty} {cv : V} {cu : Value} {a ce : Expr} {ea : E} {pf : Pos} (hcu : ∀ u, RelV cv u → u = cu) (F : IsF X.K Z T t cu) (C : ∀ k q, T.clss[k]? = some q → q.exc = true → ExcC X.K (Z.ca k)) (hg : Gl X "isinstance") (hm : X.mg "isinstance" = none) (ha : PE X a (tE X Z T cl W ea)) (hc : PE X ce (tC cv))
    (h1 : starEach [a, ce] X.env = (false, eval a X.env) :: starEach [ce] X.env) (h2 : starEach [ce] X.env = (false, eval ce X.env) :: starEach [] X.env) : PE X (.Call (.Name "isinstance" pf) [a, ce] [] pos) (tE X Z T cl W (.prim (.isin [t]) (.cons ea .nil))) :=
  pe_mono (pe_callB (call_pIs hcu F C) hg hm (by decide +kernel) (pa_cons ha (pa_cons hc pa_nil h2) h1) (by decide) (by decide) h1 (by rw [h2]; rfl)) fun σ H Q h => by
    obtain ⟨ρ, σI, h0, g, rs, s⟩ := tP1 (f := prim T (.isin [t])) (a := ea) h
    refine ⟨ρ, σI, h0, g, rs, s.mono (fun v H1 q => ?_) fun _ _ _ q => q⟩
    exact ⟨v, rfl, q⟩
/-! ### a field -/
theorem relFs_look {K : PySem.W.Frag} {n : Nat} {ρ : Nat → Addr} {H : Hp} {f : Nat} {d : D} (hinj : ∀ i j, Z.an i = Z.an j → i = j) : ∀ {fs : Fs} {gs : List (Str × V)}, RelFs K Z n ρ H fs gs → fs.lookup f = some d → ∃ v, gs.lookup (Z.an f) = some v ∧ RelD K Z n ρ H d v
  | [], gs, h, e => by cases e
  | (f', d') :: fs, gs, h, e => by
    obtain ⟨v, r, eg, h1, h2⟩ := h
    subst eg
    rw [List.lookup_cons] at e ⊢
    by_cases q : f = f'
    · subst q
      simp at e
      subst e
      exact ⟨v, by simp, h1⟩
    · have q1 : (f == f') = false := by simpa using q
      have q2 : (Z.an f == Z.an f') = false := by
        rw [beq_eq_false_iff_ne]
        exact fun z => q (hinj _ _ z)
      rw [q1] at e
      rw [q2]
      exact relFs_look hinj h2 e
theorem relFs_keys {K : PySem.W.Frag} {n : Nat} {ρ : Nat → Addr} {H : Hp} : ∀ {fs : Fs} {gs : List (Str × V)}, RelFs K Z n ρ H fs gs → gs.map (·.1) = fs.map fun p => Z.an p.1
  | [], gs, h => by
    have e : gs = [] := h
    subst e
    rfl
  | (f', d') :: fs, gs, h => by
    obtain ⟨v, r, eg, h1, h2⟩ := h
    subst eg
    rw [List.map_cons, List.map_cons, relFs_keys h2]
/-- what the table must say of fields -/
structure FdF (K : PySem.W.Frag) (Z : Ad) (T : Tab) : Prop where
  inj : ∀ i j, Z.an i = Z.an j → i = j
  xf : ∀ k q, T.clss[k]? = some q → q.exc = true → XfC K (Z.ca k) ∧ ∀ p ∈ q.fld, PySem.W.findIn K (.ref (Z.ca k)) (Z.an p.1) = some none
theorem get_fld {f : Nat} {d : D} {v : V} {u : Value} {h : Hh} {ρ : Nat → Addr} {Q : VK} (F : FdF X.K Z T) (I : Inv X pins σ H s) (g : Good X.K Z h ρ H) (rd : RelD X.K Z h.n ρ H d v) (ru : RelV v u) (hp : PSat X.K Z h.n ρ H (pFld T f d h) Q) :
    wpAny (model X.prog X.w) X.A (getAttr u (Z.an f) true) (EP X pins σ Q) X.xe s := by
  obtain ⟨d', h', hr, hq⟩ := hp
  unfold pFld at hr
  split at hr
  · rename_i a
    obtain ⟨_, e⟩ := relD_ref.mp rd
    subst e
    obtain rfl : u = Value.ref (ρ a) := ru
    split at hr
    · rename_i c fs ef
      split at hr
      · rename_i q eq
        split at hr
        · rename_i hc
          simp only [Bool.and_eq_true] at hc
          obtain ⟨⟨hx, hany⟩, hk⟩ := hc
          split at hr
          · rename_i w hw
            cases hr
            obtain ⟨xf, hno⟩ := F.xf c q eq hx
            obtain ⟨p, hp, hpf⟩ := List.any_eq_true.mp hany
            have hpf := eq_of_beq hpf
            have hn := hno p hp
            rw [hpf] at hn
            have re : RelE X.K Z _ ρ H (ρ a) c fs := g.obj a _ ef
            rcases re with ⟨e0, _⟩ | ⟨dx, gs, ea, ed, rf⟩
            · rw [e0] at hw
              cases hw
            · obtain ⟨v', hv, rv⟩ := relFs_look F.inj rf hw
              have keys : (gs.map (·.1)).Nodup := by
                have z := relFs_keys rf
                rw [List.map_reverse] at z
                have nd : (fs.map fun p => Z.an p.1).Nodup := by
                  have k : (fs.map (·.1)).Nodup := of_decide_eq_true hk
                  rw [show (fs.map fun p => Z.an p.1) = (fs.map (·.1)).map Z.an by rw [List.map_map]; rfl]
                  exact List.Pairwise.map _ (fun a b hab z => hab (F.inj _ _ z)) k
                rw [← z] at nd
                exact (List.reverse_perm _).nodup_iff.mp nd
              rw [lookup_rev gs _ keys] at hv
              obtain ⟨t1, ho⟩ := exo_at I.hok ea
              obtain ⟨mA, hns, rel⟩ := exd_at I.hok ed
              obtain ⟨od, hod, hl⟩ := lookIn_ns hns
              obtain ⟨u', hu', ru'⟩ := RelO.some_of (v := v') (o := mA (Z.an f)) (by rw [← hv]; exact rel (Z.an f))
              have ix : PySem.W.InstAt s.heap (ρ a) ({ cls := .ref (Z.ca c), dict := some dx, data := .fields #[.ref t1, .none, .none, .none, .bool false, .none] } : Obj) (Z.ca c) (some od) := ⟨ho, rfl, rfl, hod⟩
              exact HandSPX.exc_get I.kIn ix xf.ga xf.gg xf.exC (PySem.W.findObj_own xf.hdC hn rfl (by rw [hl, hu'])) (handed_of ru') ⟨v', H, I.tok _, ru', hq ρ H _ Ext.refl g rv⟩
          · cases hr
        · cases hr
      · cases hr
    · cases hr
  · cases hr
def baseOk : Expr → Bool
  | .Call (.Name _ _) [] [] _ => false
  | _ => true
theorem base_ok {e : Expr} (h : baseOk e = true) (n : Str) (env : Env) (w : Sem Value) : attributeBase e n env w = w := by
  unfold attributeBase
  split
  · cases h
  · rfl
theorem pe_nFld {f : Nat} {n : Str} {a : Expr} {ea : E} (F : FdF X.K Z T) (hn : Z.an f = n) (ha : PE X a (tE X Z T cl W ea)) (hb : baseOk a = true) : PE X (.Attribute a n pos) (tE X Z T cl W (.prim (.fld f) (.cons ea .nil))) := by
  constructor
  intro pins s σ H Q I h
  have q := tP1 (f := prim T (.fld f)) (a := ea) h
  refine attr_of (base_ok hb _ _ _) (thn (ha.run pins s σ H _ I q) fun u s1 qq => ?_)
  obtain ⟨x, H1, I1, rx, ρ, h1, d, g, rd, hp⟩ := qq
  subst hn
  exact get_fld F I1 g rd rx hp
end
end Pyi
set_option Elab.async false
set_option linter.all false
set_option maxRecDepth 100000
set_option maxHeartbeats 2000000
/-! from the text to the interpreter's form: expressions -/
namespace Pyi
open PySem L2
/-- what is known ahead: names of slots, the scope, the module's names -/
structure Gx where
  fns : List (Str × Nat)
  exs : List (Str × Nat)
  tys : List (Str × Ty)
  fls : List (Str × Nat)
structure Sx where
  N : List Str
  sc : Scope
  fn : Str → Bool
  G : Gx
  top : Nat
def visB (sc : Scope) (x : Str) : Bool := match sc.names.lookup x with
  | some .local => true
  | some .cell => true
  | some .free => true
  | _ => false
def glB (sc : Scope) (x : Str) : Bool := match sc.names.lookup x with
  | some .globalImplicit => true
  | _ => false
def locB (sx : Sx) (x : Str) : Bool := match sx.sc.names.lookup x with
  | some .local => true
  | some .cell => sx.fn x
  | _ => false
def notStar : Expr → Bool
  | .Starred _ _ => false
  | _ => true
def cConst : Const → E
  | .none => .con .non
  | .bool b => .con (.bl b)
  | .int i => .con (.int i)
  | .str x => .con (.str x)
  | _ => .stuck
def binP : Operator → Option P
  | .Add => some .add
  | .Sub => some .sub
  | .Mult => some .mul
  | .FloorDiv => some .fdiv
  | .Mod => some .mod
  | .Pow => some .pow
  | _ => none
def cmpP : CmpOp → Option P
  | .Eq => some .eq
  | .NotEq => some .ne
  | .Lt => some .lt
  | .LtE => some .le
  | .Gt => some .gt
  | .GtE => some .ge
  | _ => none
abbrev Rc := Sx → Expr → E
def cL (rec : Rc) (sx : Sx) : List Expr → Option Es
  | [] => some .nil
  | e :: es => if notStar e then (cL rec sx es).map (Es.cons (rec sx e)) else none
def cBool (rec : Rc) (sx : Sx) (and : Bool) : List Expr → E
  | [] => .stuck
  | [a] => rec sx a
  | a :: as => if and then .and (rec sx a) (cBool rec sx and as) else .or (rec sx a) (cBool rec sx and as)
def cName (sx : Sx) (x : Str) : E := if visB sx.sc x && okN x then (match ixIn sx.N x with
  | some i => .var i
  | none => .stuck) else .stuck
/-- repr(a) -/
def reprArg (sx : Sx) : Expr → Option Expr
  | .Call (.Name x _) [a] [] _ => if x == ("repr" : Str) && notStar a && glB sx.sc x then some a else none
  | _ => none
def cmpN : CmpOp → Option Bool
  | .Eq => some false
  | .NotEq => some true
  | _ => none
def cCmp (rec : Rc) (sx : Sx) (a : Expr) (op : CmpOp) (b : Expr) : E := match op, b with
  | .Is, .Constant .none _ _ => .prim .isn (.cons (rec sx a) .nil)
  | .IsNot, .Constant .none _ _ => .prim .notn (.cons (rec sx a) .nil)
  | .Eq, .List [] _ => .prim .eqE (.cons (rec sx a) .nil)
  | .NotEq, .List [] _ => .prim .neE (.cons (rec sx a) .nil)
  | op, b => match cmpN op, reprArg sx a, reprArg sx b with
    | some neg, some a', some b' => .cmpR neg (rec sx a') (rec sx b')
    | _, _, _ => match cmpP op with
      | some p => if behindInMarks op b then .stuck else .prim p (.cons (rec sx a) (.cons (rec sx b) .nil))
      | none => .stuck
inductive IxF where
  | take (k : Int)
  | ix
  | no
def ixF : Expr → IxF
  | .Slice none (some (.Constant (.int k) _ _)) none _ => .take k
  | .Name _ _ => .ix
  | .Constant (.int _) _ _ => .ix
  | .BinOp _ _ _ _ => .ix
  | .Call _ _ _ _ => .ix
  | .Subscript _ _ _ => .ix
  | _ => .no
def cSub (rec : Rc) (sx : Sx) (a b : Expr) : E := match ixF b with
  | .take k => .prim .slice (.cons (rec sx a) (.cons (.con .non) (.cons (.con (.int k)) .nil)))
  | .ix => .prim .ix (.cons (rec sx a) (.cons (rec sx b) .nil))
  | .no => .stuck
/-- built-ins of one argument -/
def bltP (x : Str) : Option P :=
  if x == ("len" : Str) then some .len else if x == ("repr" : Str) then some .repr else if x == ("int" : Str) then some .int else if x == ("list" : Str) then some .listof else if x == ("tuple" : Str) then some .tupof else none
def cCall (rec : Rc) (sx : Sx) (x : Str) (args : List Expr) : E := if glB sx.sc x && okN x then (match sx.G.fns.lookup x with
  | some f => (match cL rec sx args with
    | some es => .call f es
    | none => .stuck)
  | none => match sx.G.exs.lookup x with
    | some c => (match cL rec sx args with
      | some es => .mexc c es
      | none => .stuck)
    | none => match args with
      | [a] => if notStar a then (match bltP x with
        | some p => .prim p (.cons (rec sx a) .nil)
        | none => .stuck) else .stuck
      | [a, .Name t _] => if x == ("isinstance" : Str) && notStar a && glB sx.sc t && okN t then (match sx.G.tys.lookup t with
        | some ty => .prim (.isin [ty]) (.cons (rec sx a) .nil)
        | none => .stuck) else .stuck
      | _ => .stuck) else .stuck

/-- what the world says of the module's names -/
structure Facts (O : Wo) (T : Tab) (cl : Nat → List D → Hh → R D) (n : Nat) (G : Gx) : Prop where
  fn : ∀ x f, G.fns.lookup x = some f → ∃ a np, FnG O n a np (cl f) ∧ O.mg x = some (.ref a) ∧ PySem.W.keepIn O.K (.ref a) = true
  ex : ∀ x c, G.exs.lookup x = some c → ∃ q, T.clss[c]? = some q ∧ ExF O q (O.Z.ca c) ∧ PySem.W.keepIn O.K (.ref (O.Z.ca c)) = true ∧ O.mg x = some (.ref (O.Z.ca c))
  ty : ∀ x t, G.tys.lookup x = some t → (∃ C, O.mg x = some (.ref C) ∧ IsF O.K O.Z T t (.ref C)) ∨ ∃ b, O.mg x = none ∧ bootBuiltins x = some (.type b) ∧ x ≠ ("__name__" : Str) ∧ IsF O.K O.Z T t (.type b)
  exc : ∀ k q, T.clss[k]? = some q → q.exc = true → ExcC O.K (O.Z.ca k)
  fd : FdF O.K O.Z T
  fl : ∀ n f, G.fls.lookup n = some f → O.Z.an f = n
  blt : ∀ x, (bltP x).isSome = true ∨ x = ("isinstance" : Str) ∨ x = ("range" : Str) → O.mg x = none
/-- a context fits -/
structure Cok (O : Wo) (n : Nat) (sx : Sx) (X : Cx) (W : WX) : Prop where
  wo : woOf X O.Z = O
  N : X.N = sx.N
  nd : sx.N.Nodup
  sc : X.env.scope = sx.sc
  fn : X.fn = sx.fn
  gd : X.A.guards = some []
  rm : Room (n + 2) X.A
  tk : Takes X W
  calm : X.calm = true
def Rok (O : Wo) (T : Tab) (cl : Nat → List D → Hh → R D) (n : Nat) (rec : Rc) : Prop := ∀ sx X W src, Cok O n sx X W → Facts O T cl n sx.G → PE X src (tE X O.Z T cl W (rec sx src)) ∧ PT X src (tT X O.Z T cl W (rec sx src))
section
variable {O : Wo} {T : Tab} {cl : Nat → List D → Hh → R D} {n : Nat} {sx : Sx} {X : Cx} {W : WX} {pos : Pos} {rec : Rc}
theorem Cok.vis (c : Cok O n sx X W) {x : Str} (h : visB sx.sc x = true) : Vis X.env.scope x := by
  rw [c.sc]
  unfold visB at h
  split at h
  · exact .inl (by assumption)
  · exact .inr (.inl (by assumption))
  · exact .inr (.inr (by assumption))
  · cases h
theorem Cok.gl (c : Cok O n sx X W) {x : Str} (h : glB sx.sc x = true) : Gl X x := by
  show X.env.scope.names.lookup x = some .globalImplicit
  rw [c.sc]
  unfold glB at h
  split at h
  · assumption
  · cases h
theorem Cok.loc (c : Cok O n sx X W) {x : Str} (h : locB sx x = true) : Loc X.env.scope x ∧ (X.fn x = true ∨ X.env.scope.names.lookup x = some .local) := by
  rw [c.sc, c.fn]
  unfold locB at h
  split at h
  · exact ⟨.inl (by assumption), .inr (by assumption)⟩
  · exact ⟨.inr (by assumption), .inl h⟩
  · cases h
theorem Cok.un (c : Cok O n sx X W) : X.A.units + 64 < cLine := c.rm.units
theorem star_ok {a : Expr} {as : List Expr} (h : notStar a = true) (env : Env) : starEach (a :: as) env = (false, eval a env) :: starEach as env := by
  cases a <;> first | rfl | cases h
theorem cL_any {rec : Rc} {sx : Sx} : ∀ {as : List Expr} {es : Es}, cL rec sx as = some es → ∀ (pos : Pos) (env : Env), (backTo pos (starEach as env)).any (·.1) = false
  | [], es, h, pos, env => rfl
  | a :: as, es, h, pos, env => by
    unfold cL at h
    split at h
    · rename_i hs
      cases e : cL rec sx as with
      | none => rw [e] at h; cases h
      | some es' =>
        rw [star_ok hs]
        show (false || (backTo pos (starEach as env)).any (·.1)) = false
        rw [cL_any e]
        rfl
    · cases h
theorem cL_ok (hr : Rok O T cl n rec) (c : Cok O n sx X W) (F : Facts O T cl n sx.G) : ∀ {as : List Expr} {es : Es}, cL rec sx as = some es → PA X as (tEs X O.Z T cl W es)
  | [], es, h => by cases h; exact pa_nNil
  | a :: as, es, h => by
    unfold cL at h
    split at h
    · rename_i hs
      cases e : cL rec sx as with
      | none => rw [e] at h; cases h
      | some es' =>
        rw [e] at h
        cases h
        exact pa_nCons (hr sx X W a c F).1 (cL_ok hr c F e) (star_ok hs _)
    · cases h
theorem cName_ok (c : Cok O n sx X W) (x : Str) : PE X (.Name x pos) (tE X O.Z T cl W (cName sx x)) := by
  unfold cName
  split
  · rename_i h
    obtain ⟨h1, h2⟩ := Bool.and_eq_true_iff.mp h
    split
    · rename_i i hi
      obtain ⟨o1, o2⟩ := okN_d h2
      exact pe_nVar (by rw [c.N]; exact ixIn_get hi) (c.vis h1) o1 o2
    · exact pe_stuck
  · exact pe_stuck
theorem cConst_ok (k : Const) {j : Nat} : PE X (.Constant k j pos) (tE X O.Z T cl W (cConst k)) := by
  cases k with
  | none => exact pe_nCon pe_non fun _ _ _ => relD_non.mpr rfl
  | bool b => exact pe_nCon pe_bl fun _ _ _ => relD_bl.mpr rfl
  | int i => exact pe_nCon pe_int fun _ _ _ => relD_int.mpr rfl
  | str x => exact pe_nCon pe_str fun _ _ _ => relD_str.mpr rfl
  | _ => exact pe_stuck
theorem binP_ok {op : Operator} {p : P} (h : binP op = some p) : OpR X (binaryOp op) (rP2 X.K O.Z (prim2 p)) ∧ ∀ x y h, prim T p [x, y] h = prim2 p x y h := by
  cases op <;> cases h
  · exact ⟨op_pAdd, fun _ _ _ => rfl⟩
  · exact ⟨op_pSub, fun _ _ _ => rfl⟩
  · exact ⟨op_pMul, fun _ _ _ => rfl⟩
  · exact ⟨op_pMod, fun _ _ _ => rfl⟩
  · exact ⟨op_pPow, fun _ _ _ => rfl⟩
  · exact ⟨op_pFdiv, fun _ _ _ => rfl⟩
theorem tells_num {p : P} (hp : p = .lt ∨ p = .le ∨ p = .gt ∨ p = .ge) : Tells p := by
  intro x y h d h' e
  rcases hp with rfl | rfl | rfl | rfl <;>
  · simp only [prim2] at e
    unfold pNum at e
    split at e
    · cases e
      exact ⟨_, rfl⟩
    · cases e
theorem tells_eq {neg : Bool} {p : P} (hp : ∀ x y h, prim2 p x y h = pEq neg x y h) : Tells p := by
  intro x y h d h' e
  rw [hp] at e
  unfold pEq at e
  split at e
  · split at e
    · cases e
      exact ⟨_, rfl⟩
    · cases e
  · cases e
theorem cmpP_ok (hu : X.A.units + 64 < cLine) {op : CmpOp} {p : P} (h : cmpP op = some p) : OpR X (compareOp op) (rP2 X.K O.Z (prim2 p)) ∧ (∀ x y h, prim T p [x, y] h = prim2 p x y h) ∧ Tells p := by
  cases op <;> cases h
  · exact ⟨op_pEq hu, fun _ _ _ => rfl, tells_eq (neg := false) fun _ _ _ => rfl⟩
  · exact ⟨op_pNe hu, fun _ _ _ => rfl, tells_eq (neg := true) fun _ _ _ => rfl⟩
  · exact ⟨op_pLt, fun _ _ _ => rfl, tells_num (by simp)⟩
  · exact ⟨op_pLe, fun _ _ _ => rfl, tells_num (by simp)⟩
  · exact ⟨op_pGt, fun _ _ _ => rfl, tells_num (by simp)⟩
  · exact ⟨op_pGe, fun _ _ _ => rfl, tells_num (by simp)⟩
end
end Pyi
set_option Elab.async false
set_option linter.all false
set_option maxRecDepth 100000
set_option maxHeartbeats 2000000
namespace Pyi
open PySem L2
section
variable {O : Wo} {T : Tab} {cl : Nat → List D → Hh → R D} {n : Nat} {sx : Sx} {X : Cx} {W : WX} {pos : Pos} {rec : Rc}
/-- PE and PT -/
abbrev Both (X : Cx) (Z : Ad) (T : Tab) (cl : Nat → List D → Hh → R D) (W : WX) (src : Expr) (e : E) : Prop := PE X src (tE X Z T cl W e) ∧ PT X src (tT X Z T cl W e)
theorem both_stuck {Z : Ad} {src : Expr} : Both X Z T cl W src .stuck := ⟨pe_stuck, pt_stuck⟩
/-- the forms whose test is their value's truth -/
def leafS : Expr → Bool
  | .UnaryOp .Not _ _ => false
  | .BoolOp _ _ _ => false
  | .IfExp _ _ _ _ => false
  | .Compare _ _ _ _ => false
  | _ => true
def leafI : E → Bool
  | .stuck => false
  | .not _ => false
  | .and _ _ => false
  | .or _ _ => false
  | .ite _ _ _ => false
  | _ => true
theorem leafS_ok {src : Expr} (h : leafS src = true) (env : Env) (whole : Sem Value) : isTrue src env whole = (do let v ← whole; standAt src.pos; holding [v] (truthy v)) := by
  cases src <;> first | rfl | cases h | skip
  rename_i op a p
  cases op <;> first | rfl | cases h
theorem leafI_ok {e : E} (h : leafI e = true) (σ : St) (hh : Hh) : evalT T cl e σ hh = (evalE T cl e σ hh).bind rTruth := by
  cases e <;> first | rfl | cases h
theorem both_leaf {Z : Ad} {src : Expr} {e : E} (h : PE X src (tE X Z T cl W e)) (hs : leafS src = true) (he : leafI e = true ∨ e = .stuck) : Both X Z T cl W src e := by
  rcases he with he | rfl
  · exact ⟨h, pt_leaf h (leafI_ok he) (fun whole => leafS_ok hs _ _)⟩
  · exact both_stuck
theorem pe_and1 {a : Expr} {t : TE} (h : PE X a t) : PE X (.BoolOp .And [a] pos) t := ⟨fun pins s σ H Q I q => h.run pins s σ H Q I q⟩
theorem pe_or1 {a : Expr} {t : TE} (h : PE X a t) : PE X (.BoolOp .Or [a] pos) t := ⟨fun pins s σ H Q I q => h.run pins s σ H Q I q⟩
theorem cBool_ok (hr : Rok O T cl n rec) (c : Cok O n sx X W) (F : Facts O T cl n sx.G) : ∀ (as : List Expr), (PE X (.BoolOp .And as pos) (tE X O.Z T cl W (cBool rec sx true as)) ∧ PW X (.BoolOp .And as pos) (tT X O.Z T cl W (cBool rec sx true as))) ∧
    (PE X (.BoolOp .Or as pos) (tE X O.Z T cl W (cBool rec sx false as)) ∧ PW X (.BoolOp .Or as pos) (tT X O.Z T cl W (cBool rec sx false as)))
  | [] => ⟨⟨pe_stuck, ⟨fun _ _ _ _ _ _ _ h => by obtain ⟨_, _, _, _, _, s⟩ := h; exact s.elim⟩⟩, ⟨pe_stuck, ⟨fun _ _ _ _ _ _ _ h => by obtain ⟨_, _, _, _, _, s⟩ := h; exact s.elim⟩⟩⟩
  | [a] => ⟨⟨pe_and1 (hr sx X W a c F).1, pw_and1 (hr sx X W a c F).2⟩, ⟨pe_or1 (hr sx X W a c F).1, pw_or1 (hr sx X W a c F).2⟩⟩
  | a :: b :: as => by
    obtain ⟨⟨i1, i2⟩, i3, i4⟩ := cBool_ok hr c F (b :: as)
    exact ⟨⟨pe_nAnd (hr sx X W a c F).1 i1, pw_nAnd (hr sx X W a c F).2 i2⟩, ⟨pe_nOr (hr sx X W a c F).1 i3, pw_nOr (hr sx X W a c F).2 i4⟩⟩
theorem pt_nIte {Z : Ad} {t a b : Expr} {et ea eb : E} (ht : PT X t (tT X Z T cl W et)) (ha : PT X a (tT X Z T cl W ea)) (hb : PT X b (tT X Z T cl W eb)) : PT X (.IfExp t a b pos) (tT X Z T cl W (.ite et ea eb)) := by
  constructor
  intro pins s σ H Q I h
  obtain ⟨ρ, σI, h0, g, rs, sat⟩ := tG.bind (rel1 := relB) (e := evalT T cl et) (k := fun σ c h1 => if c then evalT T cl ea σ h1 else evalT T cl eb σ h1) h
  show wpAny _ _ (isTrue t X.env (eval t X.env) >>= fun c => if c = true then isTrue a X.env (eval a X.env) else isTrue b X.env (eval b X.env)) _ _ _
  refine wpAny_bind (thn (ht.run pins s σ H _ I ⟨ρ, σI, h0, g, rs, sat⟩) fun c s1 q => ?_)
  obtain ⟨H1, I1, ρ1, σ1, h1, d, g1, rs1, rd, s1'⟩ := q
  have rd : c = d := rd
  subst rd
  cases c with
  | true => exact ha.run pins s1 σ H1 Q I1 ⟨ρ1, σ1, h1, g1, rs1, s1'⟩
  | false => exact hb.run pins s1 σ H1 Q I1 ⟨ρ1, σ1, h1, g1, rs1, s1'⟩
theorem isNon_ok {K : PySem.W.Frag} {Z : Ad} {m : Nat} {ρ : Nat → Addr} {H : Hp} {d : D} {v : V} (rd : RelD K Z m ρ H d v) : decide (v = .non) = isNon d := by
  cases d with
  | non => rw [relD_non.mp rd]; rfl
  | bl b => rw [relD_bl.mp rd]; rfl
  | int i => rw [relD_int.mp rd]; rfl
  | str x => rw [relD_str.mp rd]; rfl
  | tup xs => obtain ⟨a, ys, e, _⟩ := relD_tup.mp rd; rw [e]; rfl
  | ref a => rw [(relD_ref.mp rd).2]; rfl
  | cls c => rw [relD_cls.mp rd]; rfl
theorem pt_isN {Z : Ad} {a : Expr} {ea : E} {j : Nat} {pos' : Pos} (ha : PE X a (tE X Z T cl W ea)) : PT X (.Compare a [.Is] [.Constant .none j pos'] pos) (tT X Z T cl W (.prim .isn (.cons ea .nil))) :=
  pt_mono (pt_cmp (pc_isN ha) rfl) fun σ H Q h => by
    obtain ⟨ρ, σI, h0, g, rs, s⟩ := tP1 (f := prim T .isn) (a := ea) (tTru (X := X) (e := fun σ h => (evalEs T cl (.cons ea .nil) σ h).bind fun ds h1 => R.of (prim T .isn ds h1)) h)
    refine ⟨ρ, σI, h0, g, rs, s.mono (fun v H1 q => ?_) fun _ _ _ q => q⟩
    obtain ⟨ρ1, h1, d, g1, rd, d', h', hr, hq⟩ := q
    cases hr
    obtain ⟨k, tk, qk⟩ := hq ρ1 H1 (.bl (isNon d)) Ext.refl g1 (relD_bl.mpr rfl)
    have tk : k = isNon d := tk
    subst tk
    exact ⟨_, rfl, by rw [isNon_ok rd]; exact qk⟩
theorem pt_notN {Z : Ad} {a : Expr} {ea : E} {j : Nat} {pos' : Pos} (ha : PE X a (tE X Z T cl W ea)) : PT X (.Compare a [.IsNot] [.Constant .none j pos'] pos) (tT X Z T cl W (.prim .notn (.cons ea .nil))) :=
  pt_mono (pt_cmp (pc_notN ha) rfl) fun σ H Q h => by
    obtain ⟨ρ, σI, h0, g, rs, s⟩ := tP1 (f := prim T .notn) (a := ea) (tTru (X := X) (e := fun σ h => (evalEs T cl (.cons ea .nil) σ h).bind fun ds h1 => R.of (prim T .notn ds h1)) h)
    refine ⟨ρ, σI, h0, g, rs, s.mono (fun v H1 q => ?_) fun _ _ _ q => q⟩
    obtain ⟨ρ1, h1, d, g1, rd, d', h', hr, hq⟩ := q
    cases hr
    obtain ⟨k, tk, qk⟩ := hq ρ1 H1 (.bl (!isNon d)) Ext.refl g1 (relD_bl.mpr rfl)
    have tk : k = !isNon d := tk
    subst tk
    exact ⟨_, rfl, by rw [isNon_ok rd]; exact qk⟩
theorem reprArg_ok {a a' : Expr} (h : reprArg sx a = some a') : ∃ p1 p2, a = .Call (.Name "repr" p1) [a'] [] p2 ∧ notStar a' = true ∧ glB sx.sc "repr" = true := by
  unfold reprArg at h
  split at h
  · split at h
    · rename_i hc
      cases h
      simp only [Bool.and_eq_true] at hc
      obtain ⟨⟨h1, h2⟩, h3⟩ := hc
      have h1 := eq_of_beq h1
      subst h1
      exact ⟨_, _, rfl, h2, h3⟩
    · cases h
  · cases h
theorem cCmp_ok (hr : Rok O T cl n rec) (c : Cok O n sx X W) (F : Facts O T cl n sx.G) (a b : Expr) (op : CmpOp) : Both X O.Z T cl W (.Compare a [op] [b] pos) (cCmp rec sx a op b) := by
  have ha := (hr sx X W a c F).1
  unfold cCmp
  split
  · exact ⟨pe_nIsN ha, pt_isN ha⟩
  · exact ⟨pe_nNotN ha, pt_notN ha⟩
  · exact ⟨pe_emp (fun _ _ => rfl) (op_rEq c.un) ha rfl, pt_emp (fun _ _ => rfl) (op_rEq c.un) ha rfl⟩
  · exact ⟨pe_emp (fun _ _ => rfl) (op_rNe c.un) ha rfl, pt_emp (fun _ _ => rfl) (op_rNe c.un) ha rfl⟩
  · split
    · rename_i neg a' b' hn h1 h2
      obtain ⟨p1, p2, e1, s1, g1⟩ := reprArg_ok h1
      obtain ⟨p3, p4, e2, s2, g2⟩ := reprArg_ok h2
      subst e1 e2
      have hm : X.mg "repr" = none := by
        have z := F.blt "repr" (.inl (by decide))
        have wo := c.wo
        obtain ⟨P, w, K, mg, base, Z⟩ := O
        cases wo
        exact z
      have hop : op = opN neg := by
        unfold cmpN at hn
        split at hn <;> cases hn <;> rfl
      exact pe_cmpRp hop (pe_rep1 c.gd c.un (c.gl g1) hm (hr sx X W a' c F).1 (star_ok s1 _)) (pe_rep1 c.gd c.un (c.gl g2) hm (hr sx X W b' c F).1 (star_ok s2 _)) (by subst hop; cases neg <;> rfl)
    · split
      · rename_i p hp
        split
        · exact both_stuck
        · rename_i hm
          obtain ⟨o1, o2, o3⟩ := cmpP_ok (O := O) (T := T) c.un hp
          have hb := (hr sx X W b c F).1
          have hm : behindInMarks op b = false := by simpa using hm
          exact ⟨pe_nCmp o2 o1 ha hb hm, pt_nCmp o2 o3 o1 ha hb hm⟩
      · exact both_stuck
theorem ixF_ok {b : Expr} (h : ixF b = .ix) : PlainIx b := by
  intro o i
  cases b <;> first | rfl | (exfalso; revert h; unfold ixF; split <;> first | (rename_i e; cases e; done) | (intro z; cases z))
theorem cSub_ok (hr : Rok O T cl n rec) (c : Cok O n sx X W) (F : Facts O T cl n sx.G) (a b : Expr) : PE X (.Subscript a b pos) (tE X O.Z T cl W (cSub rec sx a b)) := by
  have ha := (hr sx X W a c F).1
  unfold cSub
  split
  · rename_i k hk
    unfold ixF at hk
    split at hk <;> cases hk
    exact pe_nTake ha
  · rename_i hk
    exact pe_nIx ha (hr sx X W b c F).1 (ixF_ok hk)
  · exact pe_stuck
theorem cCall_ok (hr : Rok O T cl n rec) (c : Cok O n sx X W) (F : Facts O T cl n sx.G) (x : Str) (args : List Expr) {pf : Pos} : PE X (.Call (.Name x pf) args [] pos) (tE X O.Z T cl W (cCall rec sx x args)) := by
  have wo := c.wo
  obtain ⟨P, w, K, mg, base, Z⟩ := O
  cases wo
  unfold cCall
  split
  · rename_i hgl
    obtain ⟨h1, h2⟩ := Bool.and_eq_true_iff.mp hgl
    obtain ⟨o1, o2⟩ := okN_d h2
    have hG := c.gl h1
    split
    · rename_i f hf
      obtain ⟨a, np, FG, hm, hk⟩ := F.fn x f hf
      split
      · rename_i es he
        cases args with
        | nil => cases he; exact pe_nCall0 FG c.gd (c.rm.mono (by omega)) c.tk hG hm hk o1
        | cons e es' =>
          have hs : notStar e = true := by
            unfold cL at he
            split at he
            · assumption
            · cases he
          have ht : ∃ es2, cL rec sx es' = some es2 := by
            unfold cL at he
            rw [if_pos hs] at he
            cases q : cL rec sx es' with
            | none => rw [q] at he; cases he
            | some y => exact ⟨y, rfl⟩
          obtain ⟨es2, ht⟩ := ht
          exact pe_nCall FG c.gd (c.rm.mono (by omega)) c.tk hG hm hk o1 (cL_ok hr c F he) (star_ok hs _) (cL_any ht pos X.env)
      · exact pe_stuck
    · split
      · rename_i k hk
        obtain ⟨q, hq, EF, kC, hm⟩ := F.ex x k hk
        split
        · rename_i es he
          cases args with
          | nil => cases he; exact pe_nMexc0 hq EF kC c.gd c.rm hG hm o1
          | cons e es' =>
            have hs : notStar e = true := by
              unfold cL at he
              split at he
              · assumption
              · cases he
            have ht : ∃ es2, cL rec sx es' = some es2 := by
              unfold cL at he
              rw [if_pos hs] at he
              cases q : cL rec sx es' with
              | none => rw [q] at he; cases he
              | some y => exact ⟨y, rfl⟩
            obtain ⟨es2, ht⟩ := ht
            exact pe_nMexc hq EF kC c.gd c.rm hG hm o1 (cL_ok hr c F he) (star_ok hs _) (cL_any ht pos X.env)
        · exact pe_stuck
      · split
        · rename_i a
          split
          · rename_i hs
            have ha := (hr sx X W a c F).1
            have hpa := pa_nCons ha pa_nNil (star_ok hs _)
            split
            · rename_i p hp
              have hm := F.blt x (.inl (by rw [hp]; rfl))
              unfold bltP at hp
              split at hp
              · rename_i hx
                have hx := eq_of_beq hx
                subst hx
                cases hp
                exact pe_nCallB call_pLen hG hm (by decide +kernel) hpa (by decide) (by decide) (star_ok hs _) rfl
              · split at hp
                · rename_i hx
                  have hx := eq_of_beq hx
                  subst hx
                  cases hp
                  exact pe_nCallB (call_pRepr c.gd c.un) hG hm (by decide +kernel) hpa (by decide) (by decide) (star_ok hs _) rfl
                · split at hp
                  · rename_i hx
                    have hx := eq_of_beq hx
                    subst hx
                    cases hp
                    exact pe_nCallTy call_pInt hG hm (by decide +kernel) hpa (by decide) (by decide) (star_ok hs _) rfl
                  · split at hp
                    · rename_i hx
                      have hx := eq_of_beq hx
                      subst hx
                      cases hp
                      exact pe_nCallTy call_pList hG hm (by decide +kernel) hpa (by decide) (by decide) (star_ok hs _) rfl
                    · split at hp
                      · rename_i hx
                        have hx := eq_of_beq hx
                        subst hx
                        cases hp
                        exact pe_nCallTy call_pTup hG hm (by decide +kernel) hpa (by decide) (by decide) (star_ok hs _) rfl
                      · cases hp
            · exact pe_stuck
          · exact pe_stuck
        · rename_i a t pt
          split
          · rename_i hc
            simp only [Bool.and_eq_true] at hc
            obtain ⟨⟨⟨hx, hs⟩, hgt⟩, hot⟩ := hc
            have hx := eq_of_beq hx
            subst hx
            have ha := (hr sx X W a c F).1
            have hm := F.blt "isinstance" (.inr (.inl rfl))
            obtain ⟨t1, t2⟩ := okN_d hot
            split
            · rename_i ty hty
              rcases F.ty t ty hty with ⟨C, hmt, isf⟩ | ⟨b, hmt, hbt, hnm, isf⟩
              · exact pe_nIsin (cv := .ref C) (fun u r => r) isf F.exc hG hm ha (pe_glob (c.gl hgt) hmt rfl t1) (star_ok hs _) rfl
              · refine pe_nIsin (cv := .ty b) (fun u r => r) isf F.exc hG hm ha ⟨fun pins s σ H Q I h => ?_⟩ (star_ok hs _) rfl
                exact ld_blt I (c.gl hgt) hmt hbt ⟨.ty b, H, I, rfl, h⟩ hnm t1
            · exact pe_stuck
          · exact pe_stuck
        · exact pe_stuck
  · exact pe_stuck
end
end Pyi
set_option Elab.async false
set_option linter.all false
set_option maxRecDepth 100000
set_option maxHeartbeats 2000000
/-! targets, sources, comprehensions, all expressions -/
namespace Pyi
open PySem L2
/-- targets; the fuel is the depth of tuples -/
def cG (rec : Rc) (sx : Sx) : Nat → Expr → G
  | 0, _ => .stuck
  | k + 1, e => match e with
    | .Name x _ => if locB sx x then (match ixIn sx.N x with
      | some i => .name i
      | none => .stuck) else .stuck
    | .Tuple es _ _ => if es.all notStar then .tup (cGs (cG rec sx k) es) else .stuck
    | .Subscript o i _ => match ixF i with
      | .ix => .sub (rec sx o) (rec sx i)
      | _ => .stuck
    | _ => .stuck
where
  cGs (f : Expr → G) : List Expr → Gs
    | [] => .nil
    | e :: es => .cons (f e) (cGs f es)
def cSrc (rec : Rc) (sx : Sx) (e : Expr) : Src := match e with
  | .Call (.Name x _) [a] [] _ => if x == ("range" : Str) then (if glB sx.sc x && notStar a then .rng1 (rec sx a) else .stuck) else .val (rec sx e)
  | .Call (.Name x _) [a, b] [] _ => if x == ("range" : Str) then (if glB sx.sc x && notStar a && notStar b then .rng2 (rec sx a) (rec sx b) else .stuck) else .val (rec sx e)
  | .Set _ _ _ => .stuck
  | e => .val (rec sx e)
def notSet : Expr → Bool
  | .Set _ _ _ => false
  | _ => true
def ownOf (N : List Str) (scope : Scope) : List (Str × Nat) := scope.names.filterMap fun y => match y.2 with
  | .local => (ixIn N y.1).map fun i => (y.1, i)
  | .cell => (ixIn N y.1).map fun i => (y.1, i)
  | _ => none
def inner (sx : Sx) (scope : Scope) : Sx := ⟨sx.N, relS scope sx.sc, fun x => scope.names.lookup x == some .cell, sx.G, 0⟩
def cIfs (rec : Rc) (sx : Sx) : List Expr → Option Es
  | [] => some .nil
  | [c] => some (.cons (rec sx c) .nil)
  | _ => none
def cComp (rec : Rc) (sx : Sx) (elt tg iter : Expr) (ifs : List Expr) (scope : Scope) : E :=
  if blkC sx.N sx.sc scope (ownOf sx.N scope) && notSet iter && (cG rec (inner sx scope) 4 tg).slots.all (fun i => ((ownOf sx.N scope).map (·.2)).contains i) then (match cIfs rec (inner sx scope) ifs with
    | some cs => .comp ((ownOf sx.N scope).map (·.2)) (cG rec (inner sx scope) 4 tg) (cSrc rec sx iter) cs (rec (inner sx scope) elt)
    | none => .stuck) else .stuck
section
variable {O : Wo} {T : Tab} {cl : Nat → List D → Hh → R D} {n : Nat} {sx : Sx} {X : Cx} {W : WX} {pos : Pos} {rec : Rc}
theorem stores_len : ∀ {gs : Gs} {es : List Expr} {f : Expr → G} {ds : List D} {σ σ' : St} {h h' : Hh}, stores T cl (cG.cGs f es) ds σ h = some (σ', h') → ds.length = es.length
  | gs, [], f, ds, σ, σ', h, h', e => by
    cases ds with
    | nil => rfl
    | cons d ds => cases e
  | gs, x :: es, f, ds, σ, σ', h, h', e => by
    cases ds with
    | nil => cases e
    | cons d ds =>
      have e : (store T cl (f x) d σ h).bind (fun p => stores T cl (cG.cGs f es) ds p.1 p.2) = some (σ', h') := e
      cases q : store T cl (f x) d σ h with
      | none => rw [q] at e; cases e
      | some p =>
        rw [q] at e
        rw [List.length_cons, List.length_cons, stores_len (gs := .nil) e]
theorem assign_star {a : Expr} {as : List Expr} (h : notStar a = true) (env : Env) : assignEach (a :: as) env = (false, assign a env) :: assignEach as env := by
  cases a <;> first | rfl | cases h
theorem assign_all : ∀ {es : List Expr}, es.all notStar = true → ∀ env : Env, (assignEach es env).length = es.length ∧ (assignEach es env).findIdx? (·.1) = none
  | [], h, env => ⟨rfl, rfl⟩
  | a :: as, h, env => by
    rw [List.all_cons, Bool.and_eq_true] at h
    obtain ⟨i1, i2⟩ := assign_all h.2 env
    rw [assign_star h.1]
    refine ⟨by rw [List.length_cons, List.length_cons, i1], ?_⟩
    rw [List.findIdx?_cons, i2]
    rfl
theorem Cok.w0 (c : Cok O n sx X W) : Cok O n sx X W0 := ⟨c.wo, c.N, c.nd, c.sc, c.fn, c.gd, c.rm, takes_no, c.calm⟩
theorem cG_ok (hr : Rok O T cl n rec) (c : Cok O n sx X W) (F : Facts O T cl n sx.G) : ∀ (k : Nat) (e : Expr), PG X e (tGt X O.Z T cl (cG rec sx k e))
  | 0, e => pg_stuck
  | k + 1, e => by
    unfold cG
    split
    · rename_i x p
      split
      · rename_i hl
        obtain ⟨l1, l2⟩ := c.loc hl
        split
        · rename_i i hi
          exact pg_nName (by rw [c.N]; exact c.nd) (by rw [c.N]; exact ixIn_get hi) l1 l2
        · exact pg_stuck
      · exact pg_stuck
    · rename_i es j p
      split
      · rename_i hall
        have go : ∀ (es : List Expr), es.all notStar = true → PGs X es (tGts X O.Z T cl (cG.cGs (cG rec sx k) es)) := by
          intro es
          induction es with
          | nil => intro _; exact pgs_nNil
          | cons a as ih =>
            intro h
            rw [List.all_cons, Bool.and_eq_true] at h
            exact pgs_nCons (cG_ok hr c F k a) (ih h.2) (by rw [assign_star h.1]; rfl)
        obtain ⟨a1, a2⟩ := assign_all hall X.env
        exact pg_nTup c.calm (go es hall) a1 a2 fun ds σ h σ' h' e => stores_len (gs := .nil) e
      · exact pg_stuck
    · rename_i o i p
      split
      · rename_i hi
        refine pg_nSub (hr sx X W0 o c.w0 F).1 (hr sx X W0 i c.w0 F).1 fun v => ?_
        cases i <;> first | rfl | (exfalso; revert hi; unfold ixF; split <;> first | (rename_i e; cases e; done) | (intro z; cases z))
      · exact pg_stuck
    · exact pg_stuck
theorem cSrc_ok {tg : Expr} (hr : Rok O T cl n rec) (c : Cok O n sx X W) (F : Facts O T cl n sx.G) (e : Expr) : PI X tg e (tSrc X O.Z T cl W (cSrc rec sx e)) := by
  have hE := (hr sx X W e c F).1
  have hm : X.mg "range" = none := by
    have := F.blt "range" (.inr (.inr rfl))
    have wo := c.wo
    obtain ⟨P, w, K, mg, base, Z⟩ := O
    cases wo
    exact this
  unfold cSrc
  split
  · rename_i x p a p2
    split
    · rename_i hx
      have hx := eq_of_beq hx
      subst hx
      split
      · rename_i h
        obtain ⟨h1, h2⟩ := Bool.and_eq_true_iff.mp h
        exact pi_nRng1 (c.gl h1) hm (hr sx X W a c F).1 (star_ok h2 _)
      · exact pi_stuck
    · exact pi_nVal hE
  · rename_i x p a b p2
    split
    · rename_i hx
      have hx := eq_of_beq hx
      subst hx
      split
      · rename_i h
        simp only [Bool.and_eq_true] at h
        obtain ⟨⟨h1, h2⟩, h3⟩ := h
        exact pi_nRng2 (c.gl h1) hm (hr sx X W a c F).1 (hr sx X W b c F).1 (by rw [star_ok h2, star_ok h3]; rfl) (star_ok h3 _)
      · exact pi_stuck
    · exact pi_nVal hE
  · exact pi_stuck
  · exact pi_nVal hE
theorem fold_ok {iter : Expr} (h : notSet iter = true) (env : Env) (x : Value) : foldedSetIterable iter env x = pure x := by
  cases iter <;> first | rfl | cases h
theorem Cok.blk (c : Cok O n sx X W) {scope : Scope} (s : Shared) (H : Hp) (C : Addr) (ce : List (Str × Addr)) (fp : List Addr) : Cok O n (inner sx scope) (X.blk s H scope (compEnvC scope ce C X.env) fp) W0 :=
  ⟨c.wo, c.N, c.nd, by show relabel scope X.env = relS scope sx.sc; rw [← c.sc]; rfl, rfl, c.gd, c.rm, takes_no, c.calm⟩
theorem cIfs_ok (hr : Rok O T cl n rec) (c : Cok O n sx X W) (F : Facts O T cl n sx.G) {ifs : List Expr} {cs : Es} (h : cIfs rec sx ifs = some cs) : PTs X ifs (tCs X O.Z T cl W cs) := by
  unfold cIfs at h
  split at h
  · cases h; exact pts_nNil
  · cases h; exact pts_nOne (hr sx X W _ c F).2
  · cases h
theorem cComp_ok (hr : Rok O T cl n rec) (c : Cok O n sx X W) (F : Facts O T cl n sx.G) (elt tg iter : Expr) (ifs : List Expr) (scope : Scope) : PE X (.ListComp elt [⟨tg, iter, ifs, 0⟩] scope pos) (tE X O.Z T cl W (cComp rec sx elt tg iter ifs scope)) := by
  unfold cComp
  split
  · rename_i h
    simp only [Bool.and_eq_true] at h
    obtain ⟨⟨h1, h2⟩, h3⟩ := h
    split
    · rename_i cs hcs
      have wo := c.wo
      refine pe_nComp (Z := O.Z) (fun i hi => ?_) c.calm (by rw [c.N]; exact c.nd) (cSrc_ok hr c F iter) (by rw [c.N, c.sc]; exact blkOk_by h1) (fun s H C ce fp => ?_) (fun s H C ce fp => ?_) (fun s H C ce fp => ?_) (fold_ok h2 _)
      · have z := List.all_eq_true.mp h3 i hi
        exact List.contains_iff_mem.mp z
      · exact cG_ok hr (c.blk s H C ce fp) F 4 tg
      · exact cIfs_ok hr (c.blk s H C ce fp) F hcs
      · exact (hr _ _ W0 elt (c.blk s H C ce fp) F).1
    · exact pe_stuck
  · exact pe_stuck
end
end Pyi
set_option Elab.async false
set_option linter.all false
set_option maxRecDepth 100000
set_option maxHeartbeats 2000000
/-! all expressions, statements, defs -/
namespace Pyi
open PySem L2
def stepE (rec : Rc) (sx : Sx) (e : Expr) : E := match e with
  | .Name x _ => cName sx x
  | .Constant k _ _ => cConst k
  | .BinOp a op b _ => match binP op with
    | some p => .prim p (.cons (rec sx a) (.cons (rec sx b) .nil))
    | none => .stuck
  | .UnaryOp .Not a _ => .not (rec sx a)
  | .BoolOp .And as _ => cBool rec sx true as
  | .BoolOp .Or as _ => cBool rec sx false as
  | .IfExp t a b _ => .ite (rec sx t) (rec sx a) (rec sx b)
  | .Compare a [op] [b] _ => cCmp rec sx a op b
  | .Tuple es _ _ => match cL rec sx es with
    | some es => .prim .tup es
    | none => .stuck
  | .List es _ => match cL rec sx es with
    | some es => .prim .lst es
    | none => .stuck
  | .Subscript a b _ => cSub rec sx a b
  | .Call (.Name x _) args [] _ => cCall rec sx x args
  | .Attribute a nm _ => if baseOk a then (match sx.G.fls.lookup nm with
    | some f => .prim (.fld f) (.cons (rec sx a) .nil)
    | none => .stuck) else .stuck
  | .ListComp elt [⟨tg, iter, ifs, 0⟩] scope _ => cComp rec sx elt tg iter ifs scope
  | _ => .stuck
def cE : Nat → Rc
  | 0 => fun _ _ => .stuck
  | k + 1 => stepE (cE k)
section
variable {O : Wo} {T : Tab} {cl : Nat → List D → Hh → R D} {n : Nat} {sx : Sx} {X : Cx} {W : WX} {pos : Pos} {rec : Rc}
theorem lf_name {x : Str} : leafI (cName sx x) = true ∨ cName sx x = .stuck := by
  unfold cName
  split
  · split
    · exact .inl rfl
    · exact .inr rfl
  · exact .inr rfl
theorem lf_const {k : Const} : leafI (cConst k) = true ∨ cConst k = .stuck := by
  cases k <;> first | exact .inl rfl | exact .inr rfl
theorem lf_sub {a b : Expr} : leafI (cSub rec sx a b) = true ∨ cSub rec sx a b = .stuck := by
  unfold cSub
  split <;> first | exact .inl rfl | exact .inr rfl
theorem lf_call {x : Str} {args : List Expr} : leafI (cCall rec sx x args) = true ∨ cCall rec sx x args = .stuck := by
  unfold cCall
  split
  · split
    · split <;> first | exact .inl rfl | exact .inr rfl
    · split
      · split <;> first | exact .inl rfl | exact .inr rfl
      · split
        · split
          · split <;> first | exact .inl rfl | exact .inr rfl
          · exact .inr rfl
        · split
          · split <;> first | exact .inl rfl | exact .inr rfl
          · exact .inr rfl
        · exact .inr rfl
  · exact .inr rfl
theorem lf_comp {elt tg iter : Expr} {ifs : List Expr} {scope : Scope} : leafI (cComp rec sx elt tg iter ifs scope) = true ∨ cComp rec sx elt tg iter ifs scope = .stuck := by
  unfold cComp
  split
  · split <;> first | exact .inl rfl | exact .inr rfl
  · exact .inr rfl
theorem stepE_ok (hr : Rok O T cl n rec) : Rok O T cl n (stepE rec) := by
  intro sx X W src c F
  have fdx : FdF X.K O.Z T := by
    have := F.fd
    have wo := c.wo
    obtain ⟨P, w, K, mg, base, Z⟩ := O
    cases wo
    exact this
  unfold stepE
  split
  · exact both_leaf (cName_ok c _) rfl lf_name
  · exact both_leaf (cConst_ok _) rfl lf_const
  · rename_i a op b p
    split
    · rename_i q hq
      obtain ⟨o1, o2⟩ := binP_ok (O := O) (T := T) (X := X) hq
      exact both_leaf (pe_nBin o2 o1 (hr sx X W a c F).1 (hr sx X W b c F).1) rfl (.inl rfl)
    · exact both_stuck
  · rename_i a p
    exact ⟨pe_nNot (hr sx X W a c F).1, pt_nNot (hr sx X W a c F).2⟩
  · rename_i as p
    obtain ⟨⟨i1, i2⟩, _⟩ := cBool_ok (pos := p) hr c F as
    exact ⟨i1, i2.pt⟩
  · rename_i as p
    obtain ⟨_, i1, i2⟩ := cBool_ok (pos := p) hr c F as
    exact ⟨i1, i2.pt⟩
  · rename_i t a b p
    exact ⟨pe_nIte (hr sx X W t c F).2 (hr sx X W a c F).1 (hr sx X W b c F).1, pt_nIte (hr sx X W t c F).2 (hr sx X W a c F).2 (hr sx X W b c F).2⟩
  · exact cCmp_ok hr c F _ _ _
  · rename_i es j p
    split
    · rename_i es' he
      exact both_leaf (pe_nTup (cL_ok hr c F he)) rfl (.inl rfl)
    · exact both_stuck
  · rename_i es p
    split
    · rename_i es' he
      exact both_leaf (pe_nLst (cL_ok hr c F he)) rfl (.inl rfl)
    · exact both_stuck
  · exact both_leaf (cSub_ok hr c F _ _) rfl lf_sub
  · exact both_leaf (cCall_ok hr c F _ _) rfl lf_call
  · rename_i a nm p
    split
    · rename_i hb
      split
      · rename_i f hf
        exact both_leaf (pe_nFld fdx (F.fl nm f hf) (hr sx X W a c F).1 hb) rfl (.inl rfl)
      · exact both_stuck
    · exact both_stuck
  · exact both_leaf (cComp_ok hr c F _ _ _ _ _) rfl lf_comp
  · exact both_stuck
theorem cE_ok : ∀ k, Rok O T cl n (cE k)
  | 0 => fun _ _ _ _ _ _ => both_stuck
  | k + 1 => stepE_ok (cE_ok k)
end
/-! ### statements -/
def isComp : Expr → Bool
  | .ListComp _ _ _ _ => true
  | .SetComp _ _ _ _ => true
  | .DictComp _ _ _ _ _ => true
  | _ => false
def swB (tg src : Expr) : Bool := match tg, src with
  | .Tuple ts _ _, .Tuple vs _ _ => ts.length == 2 || ts.length == 3
  | .List ts _, .Tuple vs _ _ => ts.length == 2 || ts.length == 3
  | _, _ => false
def cAsg (rec : Rc) (sx : Sx) (tg src : Expr) : S :=
  if notStar tg then (if isComp src then (match tg, src with
    | .Name y py, .ListComp elt [⟨tg', iter, ifs, 0⟩] scope pos =>
      if decide (sx.sc.kind = .function) && decide (sx.sc.names.lookup y = some .local) && (py.line == pos.line) && !(scope.names.any fun (n, k) => n == y && (k == .local || k == .cell)) then (match ixIn sx.N y, cComp rec sx elt tg' iter ifs scope with
        | some i, .comp a b c d e => .asg (.name i) (.comp a b c d e)
        | _, _ => .stuck) else .stuck
    | _, _ => .stuck) else (if swB tg src then .stuck else .asg (cG rec sx 4 tg) (rec sx src))) else .stuck
def stepS (rec : Rc) (rs : Sx → List Stmt → Ss) (sx : Sx) (s : Stmt) : S := match s with
  | .Expr e _ => if isComp e then .stuck else .expr (rec sx e)
  | .Return (some e) _ => .ret (rec sx e)
  | .Return none _ => .ret (.con .non)
  | .Assign [tg] src _ => cAsg rec sx tg src
  | .If t a b _ => .ifs (rec sx t) (rs sx a) (rs sx b)
  | .For tg iter body [] _ => if notSet iter then .for_ (cG rec sx 4 tg) (cSrc rec sx iter) (rs ⟨sx.N, sx.sc, sx.fn, sx.G, match sx.top with
    | 2 => 1
    | _ => 0⟩ body) else .stuck
  | .While t body [] _ => .while_ (rec sx t) (rs sx body)
  | .Pass _ => .pass
  | .Break _ => .brk
  | .Continue _ => .cnt
  | _ => .stuck
def cSs (rec : Rc) (f : Stmt → S) : List Stmt → Ss
  | [] => .nil
  | s :: ss => .cons (f s) (cSs rec f ss)
/-- with the heap put in order ahead of each -/
def cSsN (rec : Rc) (f : Stmt → S) : List Stmt → Ss
  | [] => .nil
  | s :: ss => .cons .nrm (.cons (f s) (cSsN rec f ss))
def cB (rec : Rc) : Nat → Sx → List Stmt → Ss
  | 0, _, _ => .cons .stuck .nil
  | k + 1, sx, ss => match sx.top with
    | 1 => cSsN rec (stepS rec (cB rec k) sx) ss
    | _ => cSs rec (stepS rec (cB rec k) sx) ss
section
variable {O : Wo} {T : Tab} {cl : Nat → List D → Hh → R D} {n : Nat} {sx : Sx} {X : Cx} {W : WX} {pos : Pos} {rec : Rc}
theorem swaps_no {e : Expr} (h : isComp e = false) (t : Option Expr) (l : Nat) (env : Env) : swapsWith e t l env = pure false := by
  cases e <;> first | rfl | cases h
theorem swapped_no {tg src : Expr} (h : swB tg src = false) (env : Env) : swappedStores [tg] src env = pure none := by
  cases tg <;> cases src <;> first | rfl | skip
  case Tuple.Tuple ts _ _ vs _ _ =>
    have h1 : (ts.length == 2 || ts.length == 3) = false := h
    unfold swappedStores
    simp only [h1, Bool.not_false, Bool.true_or, if_true]
  case List.Tuple ts _ vs _ _ =>
    have h1 : (ts.length == 2 || ts.length == 3) = false := h
    unfold swappedStores
    simp only [h1, Bool.not_false, Bool.true_or, if_true]
theorem cAsg_ok (hr : Rok O T cl n rec) (c : Cok O n sx X W) (F : Facts O T cl n sx.G) (tg src : Expr) : PS X (.Assign [tg] src pos) (tX X O.Z T cl W (cAsg rec sx tg src)) := by
  unfold cAsg
  split
  · rename_i hns
    split
    · split
      · rename_i y py elt tg' iter ifs scope p hic
        split
        · rename_i h
          simp only [Bool.and_eq_true, decide_eq_true_eq, Bool.not_eq_true'] at h
          obtain ⟨⟨⟨h1, h2⟩, h3⟩, h4⟩ := h
          split
          · rename_i i a b c' d e hi hcomp
            have key : blkC sx.N sx.sc scope (ownOf sx.N scope) = true ∧ notSet iter = true ∧ (cG rec (inner sx scope) 4 tg').slots.all (fun i => ((ownOf sx.N scope).map (·.2)).contains i) = true ∧ ∃ cs, cIfs rec (inner sx scope) ifs = some cs ∧ E.comp a b c' d e = .comp ((ownOf sx.N scope).map (·.2)) (cG rec (inner sx scope) 4 tg') (cSrc rec sx iter) cs (rec (inner sx scope) elt) := by
              unfold cComp at hcomp
              split at hcomp
              · rename_i hh
                simp only [Bool.and_eq_true] at hh
                obtain ⟨⟨k1, k2⟩, k3⟩ := hh
                split at hcomp
                · rename_i cs hcs
                  exact ⟨k1, k2, k3, cs, hcs, hcomp.symm⟩
                · cases hcomp
              · cases hcomp
            obtain ⟨k1, k2, k3, cs, hcs, ke⟩ := key
            rw [ke]
            refine ps_nSetComp (Z := O.Z) (fun i hi => ?_) c.calm (by rw [c.N]; exact c.nd) (by rw [c.N]; exact ixIn_get hi) (by rw [c.sc]; exact h2) (sw_true (by rw [c.sc]; exact h1) (by rw [c.sc]; exact h2) h3 h4) (cSrc_ok hr c F iter) (by rw [c.N, c.sc]; exact blkOk_by k1)
              (fun s H C ce fp => cG_ok hr (c.blk s H C ce fp) F 4 tg') (fun s H C ce fp => cIfs_ok hr (c.blk s H C ce fp) F hcs) (fun s H C ce fp => (hr _ _ W0 elt (c.blk s H C ce fp) F).1) (fold_ok k2 _)
            exact List.contains_iff_mem.mp (List.all_eq_true.mp k3 i hi)
          · exact ps_stuck
        · exact ps_stuck
      · exact ps_stuck
    · rename_i hcomp
      split
      · exact ps_stuck
      · rename_i hsw
        have hcomp : isComp src = false := by simpa using hcomp
        have hsw : swB tg src = false := by simpa using hsw
        exact ps_nAsg (hr sx X W src c F).1 (cG_ok hr c F 4 tg) (swaps_no hcomp _ _ _) (swapped_no hsw _) (by rw [assign_star hns]; rfl)
  · exact ps_stuck
theorem stepS_ok (hr : Rok O T cl n rec) (hp : PassesOwn (model X.prog X.w) X.A X.env X.xe) (c : Cok O n sx X W) (F : Facts O T cl n sx.G) {rs : Sx → List Stmt → Ss} (hs : ∀ ss, PSs X ss (tXs X O.Z T cl W (rs sx ss))) (hs0 : ∀ t ss, PSs X ss (tXs X O.Z T cl W (rs ⟨sx.N, sx.sc, sx.fn, sx.G, t⟩ ss))) (s : Stmt) : PS X s (tX X O.Z T cl W (stepS rec rs sx s)) := by
  unfold stepS
  split
  · rename_i e p
    split
    · exact ps_stuck
    · rename_i h
      exact ps_nExpr (hr sx X W e c F).1 (swaps_no (by simpa using h) _ _ _)
  · exact ps_nRet (hr sx X W _ c F).1
  · exact ps_nRetN
  · exact cAsg_ok hr c F _ _
  · exact ps_nIf (hr sx X W _ c F).2 (hs _) (hs _)
  · rename_i tg iter body p
    split
    · rename_i h
      exact ps_nFor hp c.calm (cSrc_ok hr c F iter) (cG_ok hr c F 4 tg) (hs0 _ _) (fold_ok h _)
    · exact ps_stuck
  · exact ps_nWhile hp (hr sx X W _ c F).2 (hs _)
  · exact ps_nPass
  · exact ps_nBrk
  · exact ps_nCnt
  · exact ps_stuck
theorem cB_ok (hr : Rok O T cl n rec) (hp : PassesOwn (model X.prog X.w) X.A X.env X.xe) : ∀ (k : Nat) (sx : Sx), Cok O n sx X W → Facts O T cl n sx.G → ∀ (ss : List Stmt), PSs X ss (tXs X O.Z T cl W (cB rec k sx ss))
  | 0, sx, c, F, ss => ⟨fun _ _ _ _ _ _ h => by obtain ⟨_, _, _, _, _, s⟩ := h; exact s.elim⟩
  | k + 1, sx, c, F, ss => by
    have st : ∀ s, PS X s (tX X O.Z T cl W (stepS rec (cB rec k) sx s)) := fun s => stepS_ok hr hp c F (cB_ok hr hp k sx c F) (fun t => cB_ok hr hp k ⟨sx.N, sx.sc, sx.fn, sx.G, t⟩ ⟨c.wo, c.N, c.nd, c.sc, c.fn, c.gd, c.rm, c.tk, c.calm⟩ F) s
    unfold cB
    split
    · induction ss with
      | nil => exact pss_nNil
      | cons s ss ih => exact pss_nrm (pss_nCons (st s) ih)
    · induction ss with
      | nil => exact pss_nNil
      | cons s ss ih => exact pss_nCons (st s) ih
end
end Pyi
set_option Elab.async false
set_option linter.all false
set_option maxRecDepth 100000
set_option maxHeartbeats 2000000
/-! the defs of a module -/
namespace Pyi
open PySem L2
/-- a def that stands at a is compiled to q -/
structure DfF (O : Wo) (G : Gx) (a : Addr) (q : Fn) : Prop where
  ex : ∃ (name qual : Str) (pr : Arguments) (body : List Stmt) (sc : Scope) (kV doc pm cdv ct oc : Value) (an od : Option Addr) (osl : Array (Option Value)) (N ps : List Str),
    O.K.lookup a = some ⟨oc, od, .func (PySem.W.fnOf name qual pr body sc .none kV doc pm an cdv ct), osl⟩ ∧ PySem.W.codeIn O.K cdv qual = true ∧ FnScope N ps sc ∧ plainArgs pr = true ∧ pr.args.map (·.arg) = ps ∧
    ∃ top, q = ⟨ps.length, N.length, cB (cE 60) 40 ⟨N, sc, fun _ => true, G, top⟩ body⟩
/-- what the world says, but for the defs -/
structure Facts0 (O : Wo) (T : Tab) (G : Gx) : Prop where
  ex : ∀ x c, G.exs.lookup x = some c → ∃ q, T.clss[c]? = some q ∧ ExF O q (O.Z.ca c) ∧ PySem.W.keepIn O.K (.ref (O.Z.ca c)) = true ∧ O.mg x = some (.ref (O.Z.ca c))
  ty : ∀ x t, G.tys.lookup x = some t → (∃ C, O.mg x = some (.ref C) ∧ IsF O.K O.Z T t (.ref C)) ∨ ∃ b, O.mg x = none ∧ bootBuiltins x = some (.type b) ∧ x ≠ ("__name__" : Str) ∧ IsF O.K O.Z T t (.type b)
  exc : ∀ k q, T.clss[k]? = some q → q.exc = true → ExcC O.K (O.Z.ca k)
  fd : FdF O.K O.Z T
  fl : ∀ n f, G.fls.lookup n = some f → O.Z.an f = n
  blt : ∀ x, (bltP x).isSome = true ∨ x = ("isinstance" : Str) ∨ x = ("range" : Str) → O.mg x = none
structure FactsF (O : Wo) (T : Tab) (G : Gx) (A : Nat → Addr) : Prop where
  nm : ∀ x f, G.fns.lookup x = some f → O.mg x = some (.ref (A f)) ∧ PySem.W.keepIn O.K (.ref (A f)) = true ∧ ∃ q, T.fns[f]? = some q
  df : ∀ f q, T.fns[f]? = some q → DfF O G (A f) q
theorem all_fn {O : Wo} {T : Tab} {G : Gx} {A : Nat → Addr} (F0 : Facts0 O T G) (FF : FactsF O T G A) : ∀ (n f : Nat) (q : Fn), T.fns[f]? = some q → FnG O (3 * n) (A f) q.np (callFn T n f)
  | 0, f, q, h => fun A fr s H us vs Q E _ _ _ _ ⟨_, _, _, _, _, sat⟩ => sat.elim
  | n + 1, f, q, h => by
    obtain ⟨name, qual, pr, body, sc, kV, doc, pm, cdv, ct, oc, an, od, osl, N, ps, lk, hcd, S, hp, hps, top, hq⟩ := (FF.df f q h).ex
    have ih := all_fn F0 FF n
    have F : Facts O T (callFn T n) (3 * n) G := ⟨fun x f hx => by
      obtain ⟨h1, h2, q, h3⟩ := FF.nm x f hx
      exact ⟨A f, q.np, ih f q h3, h1, h2⟩, F0.ex, F0.ty, F0.exc, F0.fd, F0.fl, F0.blt⟩
    have e : callFn T (n + 1) f = runFn T (callFn T n) q := by
      funext ds h'
      show (match T.fns[f]? with
        | some q => runFn T (callFn T n) q ds h'
        | none => .bad) = _
      rw [h]
    rw [e]
    have bd : ∀ us : List Value, us.length = ps.length → bindArgs (PySem.W.fnOf name qual pr body sc .none kV doc pm an cdv ct) ⟨us, []⟩ = pure (ps.zip us) := by
      intro us hl
      obtain ⟨po, as, va, ko, kd, ka, df⟩ := pr
      have nd : ps.Nodup := by rw [← S.pre]; exact S.nd.sublist (List.take_sublist _ _)
      subst hps
      exact binds_fd rfl rfl hp nd hl
    have r := fnG_of (n := 3 * n + 2) (T := T) (cl := callFn T n) lk hcd S hq bd fun A' fr s H E hg hr => by
      have c : Cok O (3 * n) ⟨N, sc, fun _ => true, G, top⟩ (cxB O N qual sc (A f) cdv A' fr s H E) (fun c d _ H => E c d H) := ⟨rfl, rfl, S.nd, rfl, rfl, hg, hr, takes_cxB, rfl⟩
      exact cB_ok (O := O) (T := T) (cl := callFn T n) (n := 3 * n) (cE_ok 60) owns_cxB 40 _ c F body
    have e2 : q.np = ps.length := by rw [hq]
    rw [e2]
    exact r
end Pyi
set_option Elab.async false
set_option linter.all false
set_option maxRecDepth 100000
set_option maxHeartbeats 2000000
/-! the facts behind the top, by a check -/
namespace Pyi
open PySem L2 C8
/-! ### from the text -/
def stAt (p : Program) (i : Nat) : Stmt := (p.main.body[i]?).getD (.Pass default)
def psOf (st : Stmt) : List Str := (fnArgs st).args.map (·.arg)
def NOf0 (st : Stmt) : List Str := psOf st ++ (fnScope st).names.filterMap fun y => match y.2 with
  | .local => if (psOf st).contains y.1 then none else some y.1
  | .cell => if (psOf st).contains y.1 then none else some y.1
  | _ => none
/-- .. and the names that comprehensions bind -/
def NOf (cv : List Str) (st : Stmt) : List Str := NOf0 st ++ cv.filter fun x => !(NOf0 st).contains x
def isLaw : Stmt → Nat
  | .FunctionDef name _ _ _ _ _ _ _ _ _ => if name == ("law" : Str) then 2 else 0
  | _ => 0
def fnC (G : Gx) (cv : List Str) (st : Stmt) : Fn := ⟨(psOf st).length, (NOf cv st).length, cB (cE 60) 40 ⟨NOf cv st, fnScope st, fun _ => true, G, isLaw st⟩ (fnBody st)⟩
def fnSt (cv : List Str) (st : Stmt) : Bool := scC (NOf cv st) (psOf st) (fnScope st) && plainArgs (fnArgs st)
/-- the __init__ of a class -/
def iniOf (st : Stmt) : Stmt := match clsBody st with
  | i :: _ => i
  | [] => .Pass default
/-- its form: the text, the stores -/
structure IniF where
  p0 : Pos
  p1 : Pos
  p2 : Pos
  p3 : Pos
  p4 : Pos
  arg : Expr
  rest : List Stmt
def iniF (body : List Stmt) : Option IniF := match body with
  | .Expr (.Call (.Attribute (.Call (.Name s p0) [] [] p1) i p2) [arg] [] p3) p4 :: rest => if s == ("super" : Str) && i == ("__init__" : Str) then some ⟨p0, p1, p2, p3, p4, arg, rest⟩ else none
  | _ => none
theorem iniF_ok {body : List Stmt} {f : IniF} (h : iniF body = some f) : body = Stmt.Expr (.Call (.Attribute (.Call (.Name "super" f.p0) [] [] f.p1) "__init__" f.p2) [f.arg] [] f.p3) f.p4 :: f.rest := by
  unfold iniF at h
  split at h
  · split at h
    · rename_i hc
      obtain ⟨h1, h2⟩ := Bool.and_eq_true_iff.mp hc
      cases h
      rw [eq_of_beq h1, eq_of_beq h2]
    · cases h
  · cases h
/-- names of fields -/
def anOf (fl : List Str) (i : Nat) : Str := (fl[i]?).getD ⟨Array.replicate (1000 + i) 0⟩
def flOk (fl : List Str) : Bool := decide fl.Nodup && fl.all fun x => decide (x.cps.size < 1000)
theorem anOf_inj {fl : List Str} (h : flOk fl = true) (i j : Nat) (e : anOf fl i = anOf fl j) : i = j := by
  obtain ⟨h1, h2⟩ := Bool.and_eq_true_iff.mp h
  have nd : fl.Nodup := of_decide_eq_true h1
  have sz : ∀ x ∈ fl, x.cps.size < 1000 := fun x hx => of_decide_eq_true (List.all_eq_true.mp h2 x hx)
  unfold anOf at e
  cases ei : fl[i]? with
  | none =>
    rw [ei] at e
    cases ej : fl[j]? with
    | none =>
      rw [ej] at e
      have z := congrArg (fun x : Str => x.cps.size) e
      simp at z
      exact z
    | some y =>
      rw [ej] at e
      have z := congrArg (fun x : Str => x.cps.size) e
      have := sz y (List.mem_of_getElem? ej)
      simp at z
      omega
  | some x =>
    rw [ei] at e
    cases ej : fl[j]? with
    | none =>
      rw [ej] at e
      have z := congrArg (fun x : Str => x.cps.size) e
      have := sz x (List.mem_of_getElem? ei)
      simp at z
      omega
    | some y =>
      rw [ej] at e
      have e : x = y := e
      subst e
      exact nodup_ix nd ei ej
/-- a class: its name, its place in the text, the class above it (by its number), over ValueError (else LookupError), has its own __init__ -/
structure ClI where
  x : Str
  st : Nat
  up : Nat
  ve : Bool
  own : Bool
/-- the module: defs by names and places, classes, fields -/
structure Mo where
  fns : List (Str × Nat)
  cls : List ClI
  fls : List Str
  cv : List (Nat × List Str)
def Mo.cvs (M : Mo) (st : Nat) : List Str := (M.cv.lookup st).getD []
def bexT (ve : Bool) : Ty := .bex (if ve then 0 else 1)
def clC (p : Program) (M : Mo) (c : Nat) (k : ClI) : Cls :=
  let st := iniOf (stAt p k.st)
  match iniF (fnBody st) with
  | some f => match cMsg (psOf st) f.arg, cStores (psOf st) f.rest with
    | some ms, some ss => ⟨[.own c, .own k.up, bexT k.ve], k.own, (psOf st).length - 1, ss.map fun q => ((ixIn M.fls q.1).getD 0, q.2.1, q.2.2), ms⟩
    | _, _ => ⟨[], false, 0, [], []⟩
  | none => ⟨[], false, 0, [], []⟩
def gxOf (M : Mo) : Gx := ⟨M.fns.zipIdx.map fun q => (q.1.1, q.2), (M.cls.zipIdx.filter fun q => q.1.own).map fun q => (q.1.x, q.2), (M.cls.zipIdx.map fun q => (q.1.x, Ty.own q.2)) ++ [(("ValueError" : Str), Ty.bex 0), (("LookupError" : Str), Ty.bex 1)], M.fls.zipIdx⟩
def tabOf (p : Program) (M : Mo) : Tab := ⟨M.fns.map fun q => fnC (gxOf M) (M.cvs q.2) (stAt p q.2), M.cls.zipIdx.map fun q => clC p M q.2 q.1⟩
/-! ### the written part -/
def atG (g : Addr → Option Obj) (x : Str) : Addr := match g mainGlobals with
  | some o => He.ga [(mainGlobals, o)] x
  | none => 0
def codeG (g : Addr → Option Obj) (a : Addr) : List Addr := match g a with
  | some ⟨_, _, .func fd, _⟩ => He.refV fd.code ++ fd.closure.map (·.2)
  | _ => []
def iniG (g : Addr → Option Obj) (C : Addr) : List Addr := match g C with
  | some ⟨_, _, .cls cd, _⟩ => cd.ns :: (match g cd.ns with
    | some o => (match PySem.W.nsIn [(cd.ns, o)] cd.ns "__init__" with
      | some (some (.ref f)) => f :: codeG g f
      | _ => [])
    | none => [])
  | _ => []
def asP (M : Mo) (g : Addr → Option Obj) : List Addr := [mainGlobals, cStatics] ++ (M.cls.flatMap fun k => atG g k.x :: iniG g (atG g k.x)) ++ M.fns.flatMap fun q => atG g q.1 :: codeG g (atG g q.1)
def kP (M : Mo) (g : Addr → Option Obj) : PySem.W.Frag := He.frG g (asP M g)
abbrev FnT : Type := Option (Str × Str × Arguments × FuncBody × Scope × Addr × List Str × Addr)
def fnT (K : PySem.W.Frag) (a : Addr) : FnT := match K.lookup a with
  | some ⟨_, _, .func fd, _⟩ => some (fd.name, fd.qualname, fd.params, fd.body, fd.scope, fd.globals, fd.closure.map (·.1), fd.builtins)
  | _ => none
def fnVal (qual : Str) (cl : List Str) : Stmt → FnT
  | .FunctionDef name a b _ _ _ sc _ _ _ => some (name, qual, a, .stmts b, sc, mainGlobals, cl, builtinsNs)
  | _ => none
def iniA (K : PySem.W.Frag) (C : Addr) : Addr := He.ma K C "__init__"
def fnB (K : PySem.W.Frag) (a : Addr) : Bool := PySem.W.keepIn K (.ref a) && match K.lookup a with
  | some ⟨_, _, .func fd, _⟩ => decide (fd.defaults = .none) && PySem.W.codeIn K fd.code fd.qualname
  | _ => false
def zOf (M : Mo) (K : PySem.W.Frag) : Ad := ⟨fun c => He.ga K ((M.cls[c]?).elim Str.empty (·.x)), anOf M.fls⟩
def nwS (ve : Bool) : String := if ve then "ValueError.__new__" else "LookupError.__new__"
def inS (ve : Bool) : String := if ve then "ValueError.__init__" else "LookupError.__init__"
def bS (ve : Bool) : String := if ve then "ValueError" else "LookupError"
def bmS (ve : Bool) : List Value := [.type (bS ve), .type "Exception", .type "BaseException", .type "object"]
theorem exB_S (ve : Bool) : ExB (bS ve) (nwS ve) (inS ve) (bmS ve) := by
  cases ve
  · exact exB_L
  · exact exB_V
/-- the class object -/
def clsB (K : PySem.W.Frag) (C W : Addr) (nw : String) (bmB : List Value) : Bool := match K.lookup C with
  | some ⟨.type "type", _, .cls cd, sl⟩ => (match cd.mro, sl.toList with
    | .ref C' :: .ref W' :: bm, [_, _, _, _, some (.builtin n), _] => C' == C && W' == W && n == nw && !cd.hasDel && cd.hasDict && decide (bm = bmB)
    | _, _ => false)
  | _ => false
theorem clsB_ok {K : PySem.W.Frag} {C W : Addr} {nw : String} {bmB : List Value} (h : clsB K C W nw bmB = true) :
    ∃ nm q N bs sn sub ab col dd k0 k1 k2 k3 k5, K.lookup C = some (excClassObj nm q C N bs (.ref W :: bmB) true sn sub ab col dd k0 k1 k2 k3 k5 nw) := by
  unfold clsB at h
  split at h
  · rename_i dd cd sl ho
    split at h
    · rename_i C' W' bm k0 k1 k2 k3 n k5 hm hs
      simp only [Bool.and_eq_true, beq_iff_eq, Bool.not_eq_true', decide_eq_true_eq] at h
      obtain ⟨⟨⟨⟨⟨h1, h2⟩, h3⟩, h4⟩, h5⟩, h6⟩ := h
      subst h1 h2 h3 h6
      obtain ⟨nm, bs, mro, ns, qn, hd, sn, sb, ab, col, del⟩ := cd
      have hm : mro = _ := hm
      have h4 : del = false := h4
      have h5 : hd = true := h5
      subst hm h4 h5
      refine ⟨nm, qn, ns, bs, sn, sb, ab, col, dd, k0, k1, k2, k3, k5, ?_⟩
      rw [ho]
      have es : sl = [k0, k1, k2, k3, some (.builtin n), k5].toArray := by rw [← hs]
      rw [es]
    · cases h
  · cases h
end Pyi
set_option Elab.async false
set_option linter.all false
set_option maxRecDepth 100000
set_option maxHeartbeats 2000000
namespace Pyi
open PySem L2 C8
def supB (N : List Str) (sc : Scope) : Bool := decide (sc.kind = .function) && !sc.isCoroutine && !sc.isGenerator && decide N.Nodup && N.all (fun x => decide (sc.names.lookup x = some .local)) && sc.names.all (fun y => !decide (y.2 = .cell)) &&
  sc.names.all (fun y => !decide (sc.names.lookup y.1 = some .free) || y.1 == ("__class__" : Str))
theorem supB_ok {N : List Str} {sc : Scope} (h : supB N sc = true) : SupSc N sc := by
  unfold supB at h
  simp only [Bool.and_eq_true, Bool.not_eq_true', decide_eq_true_eq, List.all_eq_true, Bool.or_eq_true, decide_eq_false_iff_not, beq_iff_eq] at h
  obtain ⟨⟨⟨⟨⟨⟨h1, h2⟩, h3⟩, h4⟩, h5⟩, h6⟩, h7⟩ := h
  refine ⟨h1, h2, h3, h4, h5, h6, fun y hy => ?_⟩
  rcases h7 _ (PySem.mem_of_lookup hy) with z | z
  · exact absurd hy z
  · exact z
/-- the static part of a class -/
def exS (p : Program) (M : Mo) (c : Nat) (k : ClI) : Bool :=
  let st := iniOf (stAt p k.st)
  let q := clC p M c k
  match iniF (fnBody st) with
  | some f => supB (psOf st) (fnScope st) && plainArgs (fnArgs st) && decide ((fnScope st).names.lookup ("super" : Str) = some .globalImplicit) && decide ((fnScope st).names.lookup ("__class__" : Str) = some .free) &&
      decide ((psOf st).length = q.np + 1) && decide (cMsg (psOf st) f.arg = some q.msg) && decide (cStores (psOf st) f.rest = some (q.fld.map fun r => (anOf M.fls r.1, r.2.1, r.2.2))) && decide (q.fld.length ≤ 900) && decide (q.np ≤ 900) &&
      q.fld.all (fun r => !r.2.2 || decide ((fnScope st).names.lookup ("tuple" : Str) = some .globalImplicit)) && (f.p2.endLine == f.p3.line) && !(p.main.scope.names.lookup ("super" : Str)).isSome
  | none => false
/-- its __init__, in the written part -/
def inB (p : Program) (K : PySem.W.Frag) (C fI : Addr) : Bool := match K.lookup fI with
  | some ⟨_, _, .func fd, _⟩ => decide (fd.defaults = .none) && (match fd.code, fd.closure with
    | .ref cda, [(_, cc)] => PySem.W.codeIn K (.ref cda) fd.qualname && (match K.lookup cda with
        | some ⟨_, _, .fields vs, _⟩ => (match (vs[2]? : Option Value) with
          | some (.str file _) => p.main.file == file
          | _ => false)
        | _ => false) && (match K.lookup cc with
        | some ⟨_, _, .cell (some v), _⟩ => decide (v = .ref C)
        | _ => false)
    | _, _ => false)
  | _ => false
def eqF (a : Option (Option Value)) (b : Option Value) : Bool := decide (a = some b)
def exK (p : Program) (M : Mo) (K : PySem.W.Frag) (c : Nat) (k : ClI) : Bool :=
  let C := (zOf M K).ca c
  clsB K C ((zOf M K).ca k.up) (nwS k.ve) (bmS k.ve) && eqF (PySem.W.findIn K (.ref C) "__setattr__") (some (.builtin "object.__setattr__")) && PySem.W.keepIn K (.ref C) && eqF (PySem.W.ks_superIn K C C "__init__") (some (.builtin (inS k.ve))) &&
  decide (PySem.W.subIn K (.ref C) (.type (bS k.ve)) = some true) && decide (PySem.W.mroIn K C (.ref C) = some true) && eqF (PySem.W.nsIn K cStatics "thirdparty.any") none &&
  eqF (PySem.W.findIn K (.ref C) "__init__") (some (.ref (iniA K C))) && decide (PySem.W.typeIn K (.ref (iniA K C)) = some (.type "function")) && inB p K C (iniA K C) &&
  (clC p M c k).fld.all (fun r => eqF (PySem.W.findIn K (.ref C) (anOf M.fls r.1)) none)
structure ExSays (p : Program) (M : Mo) (K : PySem.W.Frag) (c : Nat) (k : ClI) : Prop where
  hs : exS p M c k = true
  hk : exK p M K c k = true
  hf : ∃ qual, fnT K (iniA K ((zOf M K).ca c)) = fnVal qual ["__class__"] (iniOf (stAt p k.st))
  hx : eqF (PySem.W.nsIn K mainGlobals k.x) (some (.ref ((zOf M K).ca c))) = true
theorem fnVal_some {qual : Str} {cl : List Str} {st : Stmt} {K : PySem.W.Frag} {a : Addr} (h : fnT K a = fnVal qual cl st) (hs : fnVal qual cl st ≠ none) :
    ∃ oc od fd osl, K.lookup a = some ⟨oc, od, .func fd, osl⟩ ∧ fd.qualname = qual ∧ fd.params = fnArgs st ∧ fd.body = .stmts (fnBody st) ∧ fd.scope = fnScope st ∧ fd.globals = mainGlobals ∧ fd.closure.map (·.1) = cl ∧ fd.builtins = builtinsNs := by
  cases st with
  | FunctionDef name ar b _ _ _ sc _ _ _ =>
    unfold fnT at h
    split at h
    · rename_i oc od fd osl e
      have h : some (fd.name, fd.qualname, fd.params, fd.body, fd.scope, fd.globals, fd.closure.map (·.1), fd.builtins) = some (name, qual, ar, FuncBody.stmts b, sc, mainGlobals, cl, builtinsNs) := h
      simp only [Option.some.injEq, Prod.mk.injEq] at h
      obtain ⟨_, h2, h3, h4, h5, h6, h7, h8⟩ := h
      exact ⟨oc, od, fd, osl, e, h2, h3, h4, h5, h6, h7, h8⟩
    · cases h
  | _ => exact absurd rfl hs
theorem fn_eta (fd : FuncData) : fd = PySem.W.fnX fd.name fd.qualname fd.params (match fd.body with | .stmts b => b | _ => []) fd.scope fd.closure fd.defaults fd.kwdefaults fd.doc fd.pyModule fd.annotations fd.code fd.closureTuple ∨ ¬ (∃ b, fd.body = .stmts b) ∨ fd.globals ≠ mainGlobals ∨ fd.builtins ≠ builtinsNs := by
  by_cases h1 : ∃ b, fd.body = .stmts b
  · by_cases h2 : fd.globals = mainGlobals
    · by_cases h3 : fd.builtins = builtinsNs
      · left
        obtain ⟨b, hb⟩ := h1
        cases fd
        simp at h2 h3 hb
        subst h2 h3 hb
        rfl
      · exact .inr (.inr (.inr h3))
    · exact .inr (.inr (.inl h2))
  · exact .inr (.inl h1)
theorem ex_says {p : Program} {w : World} {M : Mo} {K : PySem.W.Frag} {c : Nat} {k : ClI} {mg : Str → Option Value} {base : Heap} (hk : M.cls[c]? = some k) (S : ExSays p M K c k) (hst : mg "super" = none) (htu : mg "tuple" = none) :
    ExF ⟨p, w, K, mg, base, zOf M K⟩ (clC p M c k) ((zOf M K).ca c) := by
  obtain ⟨s1, k1, ⟨qual, f1⟩, x1⟩ := S
  unfold exS at s1
  dsimp only at s1
  split at s1
  · rename_i f hf
    have hbody := iniF_ok hf
    simp only [Bool.and_eq_true, Bool.not_eq_true', decide_eq_true_eq, List.all_eq_true, Bool.or_eq_true, Bool.not_eq_true'] at s1
    obtain ⟨⟨⟨⟨⟨⟨⟨⟨⟨⟨⟨a1, a2⟩, a3⟩, a4⟩, a5⟩, a6⟩, a7⟩, a8⟩, a9⟩, a10⟩, a11⟩, a12⟩ := s1
    have hne : fnVal qual ["__class__"] (iniOf (stAt p k.st)) ≠ none := by
      intro z
      cases e : iniOf (stAt p k.st) with
      | FunctionDef => rw [e] at z; cases z
      | _ => rw [e] at hbody; cases hbody
    obtain ⟨oc, od, fd, osl, lf, q1, q2, q3, q4, q5, q6, q7⟩ := fnVal_some f1 hne
    unfold exK at k1
    dsimp only at k1
    simp only [Bool.and_eq_true, decide_eq_true_eq, List.all_eq_true, eqF] at k1
    obtain ⟨⟨⟨⟨⟨⟨⟨⟨⟨⟨b1, b2⟩, b3⟩, b4⟩, b5⟩, b6⟩, b7⟩, b8⟩, b9⟩, b10⟩, b11⟩ := k1
    unfold inB at b10
    rw [lf] at b10
    simp only [Bool.and_eq_true, decide_eq_true_eq] at b10
    obtain ⟨c1, c2⟩ := b10
    split at c2
    · rename_i cda n cc ecd ecl
      simp only [Bool.and_eq_true] at c2
      obtain ⟨⟨c2, c3⟩, c4⟩ := c2
      have hn : n = ("__class__" : Str) := by
        rw [ecl] at q6
        simpa using q6
      subst hn
      have efd : fd = PySem.W.ksFn fd.name qual (fnArgs (iniOf (stAt p k.st))) (Stmt.Expr (.Call (.Attribute (.Call (.Name "super" f.p0) [] [] f.p1) "__init__" f.p2) [f.arg] [] f.p3) f.p4 :: f.rest) (fnScope (iniOf (stAt p k.st))) .none fd.kwdefaults fd.doc fd.pyModule fd.annotations (.ref cda) fd.closureTuple cc := by
        rw [← hbody]
        cases fd
        simp only at q1 q2 q3 q4 q5 q7 c1 ecd ecl
        subst q1 q2 q3 q4 q5 q7 c1 ecd ecl
        rfl
      have np1 : ∃ ar, (fnArgs (iniOf (stAt p k.st))).args.head? = some ar ∧ (psOf (iniOf (stAt p k.st)))[0]? = some ar.arg := by
        unfold psOf at a5 ⊢
        cases e : (fnArgs (iniOf (stAt p k.st))).args with
        | nil => rw [e] at a5; simp at a5
        | cons ar r => exact ⟨ar, rfl, rfl⟩
      obtain ⟨ar, har, hN0⟩ := np1
      have po : (fnArgs (iniOf (stAt p k.st))).posonlyargs = [] := by
        unfold plainArgs at a2
        simp only [Bool.and_eq_true, List.isEmpty_iff] at a2
        exact a2.1.1.1
      have SS := supB_ok a1
      have top : (p.main.scope.names.lookup ("super" : Str)).isSome = false := a12
      refine ⟨(zOf M K).ca k.up, iniA K ((zOf M K).ca c), cc, cda, bS k.ve, nwS k.ve, inS k.ve, bmS k.ve, qual, fnArgs (iniOf (stAt p k.st)), f.rest, fnScope (iniOf (stAt p k.st)), ar, psOf (iniOf (stAt p k.st)), f.p0, f.p1, f.p2, f.p3, f.p4, f.arg,
        ⟨exB_S k.ve, clsB_ok b1, b2, b3, b4, b5, b6, b7⟩, ⟨⟨oc, od, fd.name, fd.kwdefaults, fd.doc, fd.pyModule, fd.annotations, fd.closureTuple, osl, by rw [lf, ← efd]⟩, by rw [po]; exact har, by rw [← q1]; exact c2, ?_, ?_, a3, a4, SS.par _ (List.mem_of_getElem? hN0), top, hst⟩, SS, b8, b9, a2, rfl, hN0, a5, a6, a7, fun r hr => b11 r hr, a8, a9, fun r hr hb => ?_, htu, a11⟩
      · split at c3
        · rename_i ccl cdd vs ccs e1
          split at c3
          · rename_i file tf e2
            exact ⟨ccl, cdd, vs, ccs, file, tf, e1, e2, c3⟩
          · cases c3
        · cases c3
      · split at c4
        · rename_i cl cld v csl e1
          have c4 := of_decide_eq_true c4
          subst c4
          exact ⟨cl, cld, csl, e1⟩
        · cases c4
      · rcases a10 r hr with z | z
        · rw [hb] at z; cases z
        · exact z
    · cases c2
  · cases s1
end Pyi
set_option Elab.async false
set_option linter.all false
set_option maxRecDepth 100000
set_option maxHeartbeats 2000000
namespace Pyi
open PySem L2 C8
def excB (K : PySem.W.Frag) (D : Addr) : Bool := eqF (PySem.W.findIn K (.ref D) "__getattribute__") (some (.builtin "BaseException.__getattribute__")) && eqF (PySem.W.findIn K (.ref D) "__getattr__") none && decide (PySem.W.subIn K (.ref D) (.type "BaseException") = some true) && PySem.W.hasDictIn K D &&
  eqF (PySem.W.findIn K (.ref D) "__class__") (some (.builtin "object.__class__")) && eqF (PySem.W.specialIn K (.builtin "object.__class__") "__get__") (some (.builtin "getset_descriptor.__get__")) && decide (PySem.W.takesIn K (.builtin "object.__class__") = some true) && decide (PySem.W.mroIn K D (.type "object") = some true)
theorem excB_ok {K : PySem.W.Frag} {D : Addr} (h : excB K D = true) : ExcC K D ∧ XfC K D := by
  unfold excB eqF at h
  simp only [Bool.and_eq_true, decide_eq_true_eq] at h
  obtain ⟨⟨⟨⟨⟨⟨⟨h1, h2⟩, h3⟩, h4⟩, h5⟩, h6⟩, h7⟩, h8⟩ := h
  exact ⟨⟨h1, h2, h3, h4, h5, h6, h7, h8⟩, ⟨h1, h2, h3, h4⟩⟩
def freeNs : List Str := ["len", "repr", "int", "list", "tuple", "isinstance", "range", "super", "ValueError", "LookupError"]
/-- a type's answers -/
def isB (T : Tab) (M : Mo) (K : PySem.W.Frag) (t : Ty) (cv : Value) : Bool := T.clss.zipIdx.all fun q => !q.1.exc || decide (PySem.W.kitOne K (.ref ((zOf M K).ca q.2)) cv = some (q.1.mro.contains t))
theorem isB_ok {T : Tab} {M : Mo} {K : PySem.W.Frag} {t : Ty} {cv : Value} (h : isB T M K t cv = true) : IsF K (zOf M K) T t cv := ⟨fun k q hq hx => by
  have hm : (q, k) ∈ T.clss.zipIdx := List.mem_iff_getElem?.mpr ⟨k, by rw [List.getElem?_zipIdx, hq]; simp⟩
  have z := List.all_eq_true.mp h (q, k) hm
  simp only [hx, Bool.not_true, Bool.false_or, decide_eq_true_eq] at z
  exact z⟩
def stC (p : Program) (M : Mo) : Bool := flOk M.fls && (M.fns.all fun q => fnSt (M.cvs q.2) (stAt p q.2)) && M.cls.zipIdx.all fun q => !q.1.own || exS p M q.2 q.1
def kC (p : Program) (M : Mo) (K : PySem.W.Frag) : Bool :=
  (M.fns.all fun q => eqF (PySem.W.nsIn K mainGlobals q.1) (some (.ref (He.ga K q.1))) && fnB K (He.ga K q.1)) &&
  (M.cls.zipIdx.all fun q => eqF (PySem.W.nsIn K mainGlobals q.1.x) (some (.ref ((zOf M K).ca q.2))) && (!q.1.own || (exK p M K q.2 q.1 && excB K ((zOf M K).ca q.2))) && isB (tabOf p M) M K (.own q.2) (.ref ((zOf M K).ca q.2))) &&
  (freeNs.all fun x => eqF (PySem.W.nsIn K mainGlobals x) none) && isB (tabOf p M) M K (.bex 0) (.type "ValueError") && isB (tabOf p M) M K (.bex 1) (.type "LookupError")
def obsP (p : Program) (M : Mo) (K : PySem.W.Frag) : Bool × List FnT × List FnT := (kC p M K, M.fns.map fun q => fnT K (He.ga K q.1), (M.cls.zipIdx.filter fun q => q.1.own).map fun q => fnT K (iniA K ((zOf M K).ca q.2)))
def valP (p : Program) (M : Mo) : Bool × List FnT × List FnT := (true, M.fns.map fun q => fnVal q.1 [] (stAt p q.2), (M.cls.zipIdx.filter fun q => q.1.own).map fun q => fnVal (q.1.x ++ ".__init__") ["__class__"] (iniOf (stAt p q.1.st)))
def hookP (p : Program) (M : Mo) : PySem.W.Hook where
  α := Bool × List FnT × List FnT
  obs := fun s => obsP p M (kP M s.heap.get?)
  val := fun _ => valP p M
  says := fun _ h => ∃ K : PySem.W.Frag, K.In h ∧ obsP p M K = valP p M
  of := fun _ _ e => ⟨_, He.frG_in, e⟩
  keeps := fun _ _ _ ⟨K, hK, c⟩ k => ⟨K, PySem.W.Frag.In.keeps hK k, c⟩
section
variable {p : Program} {w : World} {M : Mo} {K : PySem.W.Frag} {mg : Str → Option Value} {base : Heap}
theorem lookup_zipIdx {α : Type} {f : α → Str} : ∀ {l : List (α × Nat)} {x : Str} {i : Nat}, (l.map fun q => (f q.1, q.2)).lookup x = some i → ∃ a, (a, i) ∈ l ∧ f a = x
  | [], x, i, h => by cases h
  | (a, j) :: l, x, i, h => by
    rw [List.map_cons, List.lookup_cons] at h
    split at h
    · rename_i e
      cases h
      exact ⟨a, List.mem_cons_self, (eq_of_beq e).symm⟩
    · obtain ⟨b, hb, e⟩ := lookup_zipIdx h
      exact ⟨b, List.mem_cons_of_mem _ hb, e⟩
theorem mem_zip {α : Type} {l : List α} {a : α} {i : Nat} (h : (a, i) ∈ l.zipIdx) : l[i]? = some a := by
  have := List.mem_zipIdx_iff_getElem?.mp h
  exact this
theorem zip_mem {α : Type} {l : List α} {a : α} {i : Nat} (h : l[i]? = some a) : (a, i) ∈ l.zipIdx := List.mem_zipIdx_iff_getElem?.mpr h
theorem clss_get {c : Nat} {q : Cls} (h : (tabOf p M).clss[c]? = some q) : ∃ k, M.cls[c]? = some k ∧ q = clC p M c k := by
  have h : (M.cls.zipIdx.map fun q => clC p M q.2 q.1)[c]? = some q := h
  rw [List.getElem?_map, List.getElem?_zipIdx] at h
  cases e : M.cls[c]? with
  | none => rw [e] at h; cases h
  | some k =>
    rw [e] at h
    simp at h
    exact ⟨k, rfl, h.symm⟩
theorem clss_of {c : Nat} {k : ClI} (h : M.cls[c]? = some k) : (tabOf p M).clss[c]? = some (clC p M c k) := by
  show (M.cls.zipIdx.map fun q => clC p M q.2 q.1)[c]? = _
  rw [List.getElem?_map, List.getElem?_zipIdx, h]
  simp
theorem exc_own {c : Nat} {k : ClI} (h : (clC p M c k).exc = true) : k.own = true := by
  unfold clC at h
  dsimp only at h
  split at h
  · split at h
    · exact h
    · cases h
  · cases h
theorem says_cls (hs : stC p M = true) (S : obsP p M K = valP p M) {c : Nat} {k : ClI} (hk : M.cls[c]? = some k) :
    PySem.W.nsIn K mainGlobals k.x = some (some (.ref ((zOf M K).ca c))) ∧ IsF K (zOf M K) (tabOf p M) (.own c) (.ref ((zOf M K).ca c)) ∧ (k.own = true → ExSays p M K c k ∧ ExcC K ((zOf M K).ca c) ∧ XfC K ((zOf M K).ca c) ∧ PySem.W.keepIn K (.ref ((zOf M K).ca c)) = true) := by
  have e1 : kC p M K = true := congrArg (·.1) S
  have e3 : ((M.cls.zipIdx.filter fun q => q.1.own).map fun q => fnT K (iniA K ((zOf M K).ca q.2))) = (M.cls.zipIdx.filter fun q => q.1.own).map fun q => fnVal (q.1.x ++ ".__init__") ["__class__"] (iniOf (stAt p q.1.st)) := congrArg (·.2.2) S
  unfold kC at e1
  simp only [Bool.and_eq_true, List.all_eq_true] at e1
  obtain ⟨⟨⟨⟨_, e1⟩, _⟩, _⟩, _⟩ := e1
  obtain ⟨⟨z1, z2⟩, z3⟩ := e1 (k, c) (zip_mem hk)
  refine ⟨of_decide_eq_true z1, isB_ok z3, fun ho => ?_⟩
  simp only [ho, Bool.not_true, Bool.false_or, Bool.and_eq_true] at z2
  obtain ⟨y1, y2⟩ := excB_ok z2.2
  have hst : exS p M c k = true := by
    unfold stC at hs
    simp only [Bool.and_eq_true, List.all_eq_true] at hs
    have := hs.2 (k, c) (zip_mem hk)
    simpa [ho] using this
  have hmem : (k, c) ∈ M.cls.zipIdx.filter fun q => q.1.own := List.mem_filter.mpr ⟨zip_mem hk, ho⟩
  have hft : fnT K (iniA K ((zOf M K).ca c)) = fnVal (k.x ++ ".__init__") ["__class__"] (iniOf (stAt p k.st)) := by
    obtain ⟨i, hi⟩ := List.getElem?_of_mem hmem
    have := congrArg (·[i]?) e3
    simp only [List.getElem?_map, hi, Option.map_some] at this
    exact Option.some.inj this
  have kk : PySem.W.keepIn K (.ref ((zOf M K).ca c)) = true := by
    have := z2.1
    unfold exK at this
    simp only [Bool.and_eq_true] at this
    exact this.1.1.1.1.1.1.1.1.2
  exact ⟨⟨hst, z2.1, ⟨_, hft⟩, z1⟩, y1, y2, kk⟩
theorem says_free (X : K.In base) (G : base.Ns mainGlobals mg) (S : obsP p M K = valP p M) {x : Str} (hx : x ∈ freeNs) : mg x = none := by
  have e1 : kC p M K = true := congrArg (·.1) S
  unfold kC at e1
  simp only [Bool.and_eq_true, List.all_eq_true] at e1
  exact PySem.W.mg_none_of X G (of_decide_eq_true (e1.1.1.2 x hx))
theorem blt_free {x : Str} (h : (bltP x).isSome = true ∨ x = ("isinstance" : Str) ∨ x = ("range" : Str)) : x ∈ freeNs := by
  rcases h with h | rfl | rfl
  · unfold bltP at h
    unfold freeNs
    split at h
    · rename_i e; rw [eq_of_beq e]; simp
    · split at h
      · rename_i e; rw [eq_of_beq e]; simp
      · split at h
        · rename_i e; rw [eq_of_beq e]; simp
        · split at h
          · rename_i e; rw [eq_of_beq e]; simp
          · split at h
            · rename_i e; rw [eq_of_beq e]; simp
            · cases h
  · unfold freeNs; simp
  · unfold freeNs; simp
theorem facts0 (hs : stC p M = true) (S : obsP p M K = valP p M) (X : K.In base) (G : base.Ns mainGlobals mg) : Facts0 ⟨p, w, K, mg, base, zOf M K⟩ (tabOf p M) (gxOf M) := by
  have hst : mg "super" = none := says_free X G S (by unfold freeNs; simp)
  have htu : mg "tuple" = none := says_free X G S (by unfold freeNs; simp)
  have e1 : kC p M K = true := congrArg (·.1) S
  have fl1 : flOk M.fls = true := by
    unfold stC at hs
    simp only [Bool.and_eq_true] at hs
    exact hs.1.1
  refine ⟨fun x c h => ?_, fun x t h => ?_, fun k q h hx => ?_, ⟨anOf_inj fl1, fun k q h hx => ?_⟩, fun n f h => ?_, fun x h => says_free X G S (blt_free h)⟩
  · obtain ⟨k, hm, e⟩ := lookup_zipIdx (f := ClI.x) h
    obtain ⟨hm, ho⟩ := List.mem_filter.mp hm
    have hk := mem_zip hm
    obtain ⟨n1, _, o1⟩ := says_cls hs S hk
    obtain ⟨es, _, _, kk⟩ := o1 ho
    subst e
    exact ⟨clC p M c k, clss_of hk, ex_says hk es hst htu, kk, PySem.W.mg_of X G n1⟩
  · have h : ((M.cls.zipIdx.map fun q => (q.1.x, Ty.own q.2)) ++ [(("ValueError" : Str), Ty.bex 0), (("LookupError" : Str), Ty.bex 1)]).lookup x = some t := h
    rw [List.lookup_append] at h
    cases e : (M.cls.zipIdx.map fun q => (q.1.x, Ty.own q.2)).lookup x with
    | some t' =>
      rw [e] at h
      cases h
      have : ∃ k c, (k, c) ∈ M.cls.zipIdx ∧ k.x = x ∧ t = Ty.own c := by
        clear S hs X G
        generalize M.cls.zipIdx = l at e
        induction l with
        | nil => cases e
        | cons q l ih =>
          rw [List.map_cons, List.lookup_cons] at e
          split at e
          · rename_i ee
            cases e
            exact ⟨q.1, q.2, List.mem_cons_self, (eq_of_beq ee).symm, rfl⟩
          · obtain ⟨k, c, h1, h2, h3⟩ := ih e
            exact ⟨k, c, List.mem_cons_of_mem _ h1, h2, h3⟩
      obtain ⟨k, c, hm, ex, et⟩ := this
      obtain ⟨n1, i1, _⟩ := says_cls hs S (mem_zip hm)
      subst ex et
      exact .inl ⟨_, PySem.W.mg_of X G n1, i1⟩
    | none =>
      rw [e] at h
      have h : [(("ValueError" : Str), Ty.bex 0), (("LookupError" : Str), Ty.bex 1)].lookup x = some t := h
      unfold kC at e1
      simp only [Bool.and_eq_true] at e1
      rw [List.lookup_cons] at h
      split at h
      · rename_i ee
        cases h
        have ee := eq_of_beq ee
        subst ee
        exact .inr ⟨"ValueError", says_free X G S (by unfold freeNs; simp), by decide +kernel, by decide, isB_ok e1.1.2⟩
      · rw [List.lookup_cons] at h
        split at h
        · rename_i ee
          cases h
          have ee := eq_of_beq ee
          subst ee
          exact .inr ⟨"LookupError", says_free X G S (by unfold freeNs; simp), by decide +kernel, by decide, isB_ok e1.2⟩
        · cases h
  · obtain ⟨kk, hk, eq⟩ := clss_get h
    subst eq
    obtain ⟨_, _, o1⟩ := says_cls hs S hk
    exact (o1 (exc_own hx)).2.1
  · obtain ⟨kk, hk, eq⟩ := clss_get h
    subst eq
    obtain ⟨_, _, o1⟩ := says_cls hs S hk
    obtain ⟨es, _, x1, _⟩ := o1 (exc_own hx)
    refine ⟨x1, fun r hr => ?_⟩
    have := es.hk
    unfold exK at this
    simp only [Bool.and_eq_true, List.all_eq_true] at this
    exact of_decide_eq_true (this.2 r hr)
  · have h : M.fls.zipIdx.lookup n = some f := h
    have : ∃ a, (a, f) ∈ M.fls.zipIdx ∧ a = n := by
      have z := lookup_zipIdx (f := fun x : Str => x) (l := M.fls.zipIdx) (x := n) (i := f) (by simpa using h)
      exact z
    obtain ⟨a, hm, rfl⟩ := this
    show anOf M.fls f = a
    unfold anOf
    rw [mem_zip hm]
    rfl
theorem factsF (hs : stC p M = true) (S : obsP p M K = valP p M) (X : K.In base) (G : base.Ns mainGlobals mg) : FactsF ⟨p, w, K, mg, base, zOf M K⟩ (tabOf p M) (gxOf M) (fun f => He.ga K ((M.fns[f]?).elim Str.empty (·.1))) := by
  have e1 : kC p M K = true := congrArg (·.1) S
  have e2 : (M.fns.map fun q => fnT K (He.ga K q.1)) = M.fns.map fun q => fnVal q.1 [] (stAt p q.2) := congrArg (·.2.1) S
  unfold kC at e1
  simp only [Bool.and_eq_true, List.all_eq_true] at e1
  have ef := e1.1.1.1.1
  refine ⟨fun x f h => ?_, fun f q h => ?_⟩
  · obtain ⟨a, hm, e⟩ := lookup_zipIdx (f := fun q : Str × Nat => q.1) h
    have hk := mem_zip hm
    have z := ef a (List.mem_of_getElem? hk)
    obtain ⟨z1, z2⟩ := z
    subst e
    have ea : He.ga K ((M.fns[f]?).elim Str.empty (·.1)) = He.ga K a.1 := by rw [hk]; rfl
    refine ⟨?_, ?_, ?_⟩
    · show mg a.1 = some (.ref (He.ga K ((M.fns[f]?).elim Str.empty (·.1))))
      rw [ea]
      exact PySem.W.mg_of X G (of_decide_eq_true z1)
    · show PySem.W.keepIn K (.ref (He.ga K ((M.fns[f]?).elim Str.empty (·.1)))) = true
      rw [ea]
      unfold fnB at z2
      simp only [Bool.and_eq_true] at z2
      exact z2.1
    · exact ⟨_, by show (M.fns.map fun q => fnC (gxOf M) (M.cvs q.2) (stAt p q.2))[f]? = _; rw [List.getElem?_map, hk]; rfl⟩
  · have h : (M.fns.map fun q => fnC (gxOf M) (M.cvs q.2) (stAt p q.2))[f]? = some q := h
    rw [List.getElem?_map] at h
    cases hk : M.fns[f]? with
    | none => rw [hk] at h; cases h
    | some a =>
      rw [hk] at h
      cases h
      obtain ⟨z1, z2⟩ := ef a (List.mem_of_getElem? hk)
      have hft : fnT K (He.ga K a.1) = fnVal a.1 [] (stAt p a.2) := by
        have := congrArg (·[f]?) e2
        simp only [List.getElem?_map, hk, Option.map_some] at this
        exact Option.some.inj this
      have hsf : fnSt (M.cvs a.2) (stAt p a.2) = true := by
        unfold stC at hs
        simp only [Bool.and_eq_true, List.all_eq_true] at hs
        exact hs.1.2 a (List.mem_of_getElem? hk)
      unfold fnSt at hsf
      obtain ⟨s1, s2⟩ := Bool.and_eq_true_iff.mp hsf
      unfold fnB at z2
      obtain ⟨_, z2⟩ := Bool.and_eq_true_iff.mp z2
      have hne : fnVal a.1 [] (stAt p a.2) ≠ none := by
        intro z
        rw [z] at hft
        split at z2
        · rename_i e
          unfold fnT at hft
          rw [e] at hft
          cases hft
        · cases z2
      obtain ⟨oc, od, fd, osl, lf, q1, q2, q3, q4, q5, q6, q7⟩ := fnVal_some hft hne
      rw [lf] at z2
      simp only [Bool.and_eq_true, decide_eq_true_eq] at z2
      refine ⟨fd.name, fd.qualname, fnArgs (stAt p a.2), fnBody (stAt p a.2), fnScope (stAt p a.2), fd.kwdefaults, fd.doc, fd.pyModule, fd.code, fd.closureTuple, oc, fd.annotations, od, osl, NOf (M.cvs a.2) (stAt p a.2), psOf (stAt p a.2), ?_, z2.2, fnScope_by s1, s2, rfl, _, rfl⟩
      show K.lookup (He.ga K a.1) = _
      rw [lf]
      have cl0 : fd.closure = [] := by simpa using q6
      have ed : fd.defaults = .none := z2.1
      cases fd
      simp only at q2 q3 q4 q5 q7 cl0 ed
      subst q2 q3 q4 q5 q7 cl0 ed
      rfl
end
end Pyi
set_option Elab.async false
set_option linter.all false
set_option maxRecDepth 100000
set_option maxHeartbeats 2000000
/-! the end: the law holds if the interpreter says True for every script -/
namespace Pyi
open PySem L2 C8 PyProof.Rows
/-- the heap at the law's call: the script alone -/
def heap0 (ns : List Int) : Hh := ⟨1, .nil, fun a => if a = 0 then some (.frz (ns.map D.int)) else none⟩
theorem relDs_ints {K : PySem.W.Frag} {Z : Ad} {n : Nat} {ρ : Nat → Addr} {H : Hp} : ∀ ns : List Int, RelDs K Z n ρ H (ns.map D.int) (ns.map V.int)
  | [] => relDs_nil.mpr rfl
  | i :: ns => relDs_cons.mpr ⟨.int i, ns.map V.int, rfl, relD_int.mpr rfl, relDs_ints ns⟩
theorem good0 {K : PySem.W.Frag} {Z : Ad} {H : Hp} {a : Addr} {ns : List Int} (h : (∃ o, H a = some (.frz o (.lst (ns.map V.int)))) ∨ ∀ H', SqL K H' a (ns.map V.int)) : Good K Z (heap0 ns) (fun _ => a) H := by
  have one : ∀ i o, (heap0 ns).f i = some o → i = 0 ∧ o = .frz (ns.map D.int) := fun i o e => by
    have e : (if i = 0 then some (O.frz (ns.map D.int)) else none) = some o := e
    split at e
    · rename_i q
      cases e
      exact ⟨q, rfl⟩
    · cases e
  refine ⟨fun i hi => ?_, fun i o e => ?_, fun i j oi oj ei ej fi fj _ => ?_, fun i o e => ?_⟩
  · have hi : i < 1 := hi
    exact ⟨_, if_pos (by omega)⟩
  · show i < 1
    have := (one i o e).1
    omega
  · rw [(one i oi ei).1, (one j oj ej).1]
  · rw [(one i o e).2]
    exact ⟨ns.map V.int, h, relDs_ints ns⟩
theorem sp0 {K : PySem.W.Frag} {Z : Ad} {H : Hp} {a : Addr} {ns : List Int} {f : List D → Hh → R D} {h' : Hh} (h : (∃ o, H a = some (.frz o (.lst (ns.map V.int)))) ∨ ∀ H', SqL K H' a (ns.map V.int)) (e : f [.ref 0] (heap0 ns) = .ok (.bl true) h') :
    spI K Z f [.ref a] H (fun v _ => v = .bl true) (fun _ _ _ => False) := by
  refine ⟨fun _ => a, heap0 ns, [.ref 0], good0 h, relDs_cons.mpr ⟨_, [], rfl, relD_ref.mpr ⟨Nat.zero_lt_one, rfl⟩, relDs_nil.mpr rfl⟩, ?_⟩
  rw [e]
  exact fun ρ' H' b x g r => relD_bl.mp r
theorem law_callG {P : Program} {w : World} {K : PySem.W.Frag} {mg mb : Str → Option Value} {k : Nat} {fa a : Addr} {Z : Ad} {f : List D → Hh → R D} {s₁ : Shared} {vs : List Value} {ns : List Int} {h' : Hh}
    (KX : K.In s₁.heap) (hns : s₁.heap.Ns mainGlobals mg) (hb : s₁.heap.Ns builtinsNs mb) (hbb : ∀ x : Str, x ≠ "__name__" → mb x = bootBuiltins x) (hlim : s₁.heap.NoLimit) (hg : s₁.gens = #[])
    (ha : s₁.heap.get? a = some { cls := .type "list", data := .seq vs.toArray }) (hi : IntsAre vs ns) (hl : ns.length ≤ sizeLine) (hr : Room k callerA) (hgd : callerA.guards = some [])
    (F : ∀ base : Heap, K.In base → base.Ns mainGlobals mg → FnG ⟨P, w, K, mg, base, Z⟩ k fa 1 f) (he : f [.ref 0] (heap0 ns) = .ok (.bl true) h') :
    codeAny (model P w) callerA (.call (.ref fa) ⟨[.ref a], []⟩) (fun r s' => r = .ok (.ret (.bool true)) ∧ OldK s₁.heap s'.heap ∧ s'.os = s₁.os ∧ AllBare s'.gens) s₁ := by
  have rv := vals_ints hi
  have lenV := hi.length
  have main : ∀ H : Hp, ((∃ o, H a = some (.frz o (.lst (ns.map V.int)))) ∨ ∀ H', SqL K H' a (ns.map V.int)) → (∀ b, H b = none ∨ ∃ o xs, H b = some (.frz o (.lst xs))) → HOk P w H s₁.heap → (∀ b, H b ≠ none → b = a) → (H a ≠ none → K.lookup a = none) →
      codeAny (model P w) callerA (.call (.ref fa) ⟨[.ref a], []⟩) (fun r s' => r = .ok (.ret (.bool true)) ∧ OldK s₁.heap s'.heap ∧ s'.os = s₁.os ∧ AllBare s'.gens) s₁ := by
    intro H hS hO hok hA hK
    have low : ∀ {b : Addr} {o : Obj}, s₁.heap.get? b = some o → H b = none → (hidT s₁.heap H).get? b = some o := fun e n => hidT_get e n
    have dic : ∀ {b : Addr} {o : Obj} {es : Array DictEntry} {ep : Nat}, s₁.heap.get? b = some o → o.data = .dict es ep → H b = none := by
      intro b o es ep e d
      cases q : H b with
      | none => rfl
      | some u =>
        have eb : b = a := hA b (by rw [q]; simp)
        rw [eb, ha] at e
        cases e
        have d' : Data.seq vs.toArray _ = Data.dict es ep := d
        cases d'
    have lns : ∀ {b : Addr} {m : Str → Option Value}, s₁.heap.Ns b m → (hidT s₁.heap H).Ns b m := by
      rintro b m ⟨o, es, ep, e, d, r⟩
      exact ⟨o, es, ep, low e (dic e d), d, r⟩
    have kB : K.In (hidT s₁.heap H) := by
      intro b o e
      refine low (KX b o e) ?_
      cases q : H b with
      | none => rfl
      | some u =>
        have eb : b = a := hA b (by rw [q]; simp)
        rw [eb] at q e
        rw [hK (by rw [q]; simp)] at e
        cases e
    obtain ⟨mc, hc1, hc2⟩ := hlim
    have md : Mod K mg (hidT s₁.heap H) := ⟨kB, lns hns, ⟨mb, lns hb, hbb⟩, ⟨mc, lns hc1, hc2⟩⟩
    have e0 : Env0 P w K mg (hidT s₁.heap H) callerA [] s₁ H := ⟨rfl, md, fun b o e => of_hidT e, Nat.le_of_eq (hidT_size _ _), trivial, fun b hb => absurd (show b ∈ ([] : List Addr) from hb) (by simp), hok, .of_eq hg⟩
    refine codeAny_mono (F _ kB (lns hns) callerA [] s₁ H [.ref a] [.ref a] (fun v _ => v = .bl true) (fun _ _ _ => False) hgd hr e0 (.cons rfl .nil) (sp0 hS he)) fun r s' hq => ?_
    match r, hq with
    | .error e, hq =>
      obtain ⟨_, _, _, _, _, _, _, _, _, _, _, _, z⟩ := hq
      exact z.elim
    | .ok (.ret u), hq =>
      obtain ⟨v, H', os, bare, un, hok', r', q⟩ := hq
      have q : v = .bl true := q
      subst q
      obtain rfl : u = Value.bool true := r'
      refine ⟨rfl, OldK.of_keep fun b o e => ?_, os, bare⟩
      cases q : H b with
      | none => exact un.keep b o e q (fun z => absurd (show b ∈ ([] : List Addr) from z) (by simp)) (by simp)
      | some u =>
        rcases hO b with z | ⟨ob, xs, z⟩
        · rw [q] at z
          cases z
        · have z2 := un.frzs b ob _ z
          obtain ⟨y1, _⟩ := hok b _ z
          obtain ⟨y2, _⟩ := hok' b _ z2
          rw [e] at y1
          cases y1
          exact y2
  cases hk : K.lookup a with
  | some o =>
    have e := KX a o hk
    rw [ha] at e
    cases e
    refine main (fun _ => none) (.inr fun H' => .inr ⟨_, vs.toArray, _, hk, rfl, rfl, rfl, by rw [List.size_toArray, lenV]; exact hl, by simpa using rv⟩) (fun _ => .inl rfl) (fun b u z => ?_) (fun b z => absurd rfl z) (fun z => absurd rfl z)
    have z' : (none : Option HO) = some u := z
    cases z'
  | none =>
    refine main (fun b => if b = a then some (.frz { cls := .type "list", data := .seq vs.toArray } (.lst (ns.map V.int))) else none) (.inl ⟨_, if_pos rfl⟩) (fun b => ?_) (fun b u z => ?_) (fun b z => ?_) (fun _ => hk)
    · by_cases hb : b = a
      · exact .inr ⟨_, _, if_pos hb⟩
      · exact .inl (if_neg hb)
    · by_cases hb : b = a
      · have z' := (if_pos hb).symm.trans z
        cases z'
        subst hb
        exact ⟨ha, by rw [List.length_map]; exact hl, vs, _, rv, ha⟩
      · have z' := (if_neg hb).symm.trans z
        cases z'
    · by_cases hb : b = a
      · exact hb
      · exact absurd (if_neg hb) z
/-- the walk that the head leaves -/
theorem walk_G {l : PySem.W.OpenLaw} {n N f st : Nat} {q : Program} {loose : List Str} {XP : (Str → Option Value) → Heap → Prop} {d : DefRec} {M : Mo} (hn : l.most = some n) (hn2 : n ≤ sizeLine) (hdf : d.params.defaults = []) (hr : Room (3 * N) callerA) (hgd : callerA.guards = some [])
    (hs : stC l.prog M = true) (hf : M.fns[f]? = some (d.name, st)) (h1 : (fnC (gxOf M) (M.cvs st) (stAt l.prog st)).np = 1)
    (hres : ∀ ns : List Int, ns.length ≤ n → ∃ h', callFn (tabOf l.prog M) N f [.ref 0] (heap0 ns) = .ok (.bl true) h') :
    PySem.W.WalkO q loose XP (hookP l.prog M).says l.row.toRowW d [] (fun f vs => PySem.call f vs) := by
  refine Att.attach_call hn hdf fun w s₀ s₁ mg mb fa o pm cd doc a vs ns G Y ho hd hcd hmg hobj hints hlen hg => ?_
  obtain ⟨K, KX, S⟩ := Y
  obtain ⟨h', e⟩ := hres ns hlen
  have e1 : kC l.prog M K = true := congrArg (·.1) S
  have hfa : fa = He.ga K d.name := by
    unfold kC at e1
    simp only [Bool.and_eq_true, List.all_eq_true] at e1
    have z := (e1.1.1.1.1 _ (List.mem_of_getElem? hf)).1
    have z2 := PySem.W.mg_of KX G.T.g (of_decide_eq_true z)
    rw [hmg] at z2
    exact Value.ref.inj (Option.some.inj z2)
  have hq : (tabOf l.prog M).fns[f]? = some (fnC (gxOf M) (M.cvs st) (stAt l.prog st)) := by
    show (M.fns.map fun q => fnC (gxOf M) (M.cvs q.2) (stAt l.prog q.2))[f]? = _
    rw [List.getElem?_map, hf]
    rfl
  refine law_callG (Z := zOf M K) KX G.T.g G.T.b G.T.builtins G.T.nolimit hg hobj hints (Nat.le_trans hlen hn2) hr hgd (fun base X1 G1 => ?_) e
  have r := all_fn (facts0 (w := w) hs S X1 G1) (factsF hs S X1 G1) N f _ hq
  rw [h1] at r
  rw [hfa]
  have ea : He.ga K ((M.fns[f]?).elim Str.empty (·.1)) = He.ga K d.name := by rw [hf]; rfl
  rw [← ea]
  exact r
end Pyi
set_option Elab.async false
set_option linter.all false
set_option maxRecDepth 1000000
set_option maxHeartbeats 0
namespace Law
open Pyi PySem
def fn0 : Fn := ⟨1, 1, (.cons (.ret (.prim .lst (.cons (.prim .listof (.cons (.prim .slice (.cons (.var 0) (.cons (.con .non) (.cons (.con (.int (60))) .nil)))) .nil)) (.cons (.con (.int (0))) (.cons (.con (.int (0))) .nil)))))
  .nil)⟩
def fn1 : Fn := ⟨1, 6, (.cons (.asg (.name 1) (.prim .ix (.cons (.var 0) (.cons (.con (.int (1))) .nil))))
  (.cons (.asg (.sub (.var 0) (.con (.int (1)))) (.prim .add (.cons (.var 1) (.cons (.con (.int (1))) .nil))))
  (.cons (.asg (.name 2) (.prim .add (.cons (.prim .mul (.cons (.var 1) (.cons (.con (.int (1051))) .nil))) (.cons (.con (.int (53))) .nil))))
  (.cons (.ifs (.prim .neE (.cons (.prim .ix (.cons (.var 0) (.cons (.con (.int (0))) .nil))) .nil)) (.cons (.asg (.name 2) (.prim .ix (.cons (.prim .ix (.cons (.var 0) (.cons (.con (.int (0))) .nil))) (.cons (.prim .mod (.cons (.prim .int (.cons (.var 1) .nil)) (.cons (.prim .len (.cons (.prim .ix (.cons (.var 0) (.cons (.con (.int (0))) .nil))) .nil)) .nil))) .nil))))
  .nil) .nil)
  (.cons (.ifs (.and (.prim .lt (.cons (.var 1) (.cons (.prim .len (.cons (.prim .ix (.cons (.var 0) (.cons (.con (.int (0))) .nil))) .nil)) .nil))) (.prim .ge (.cons (.var 2) (.cons (.prim .pow (.cons (.con (.int (10))) (.cons (.con (.int (18))) .nil))) .nil)))) (.cons (.ret (.var 2))
  .nil) .nil)
  (.cons (.asg (.name 3) (.prim .mod (.cons (.prim .int (.cons (.prim .add (.cons (.prim .add (.cons (.prim .mod (.cons (.prim .int (.cons (.var 2) .nil)) (.cons (.con (.int (2147483587))) .nil))) (.cons (.prim .mul (.cons (.var 1) (.cons (.con (.int (30103))) .nil))) .nil))) (.cons (.con (.int (79))) .nil))) .nil)) (.cons (.con (.int (2147483587))) .nil))))
  (.cons (.asg (.name 4) (.prim .mod (.cons (.prim .int (.cons (.prim .add (.cons (.prim .add (.cons (.prim .mul (.cons (.var 3) (.cons (.var 3) .nil))) (.cons (.prim .mul (.cons (.var 1) (.cons (.con (.int (70039))) .nil))) .nil))) (.cons (.con (.int (61))) .nil))) .nil)) (.cons (.con (.int (2147483563))) .nil))))
  (.cons (.asg (.name 5) (.prim .mod (.cons (.prim .int (.cons (.prim .add (.cons (.prim .add (.cons (.prim .mul (.cons (.var 4) (.cons (.var 4) .nil))) (.cons (.var 3) .nil))) (.cons (.prim .mul (.cons (.prim .mul (.cons (.var 1) (.cons (.var 1) .nil))) (.cons (.con (.int (37))) .nil))) .nil))) .nil)) (.cons (.con (.int (2147483549))) .nil))))
  (.cons (.ret (.prim .add (.cons (.prim .mul (.cons (.prim .add (.cons (.prim .mul (.cons (.var 5) (.cons (.con (.int (2147483587))) .nil))) (.cons (.var 4) .nil))) (.cons (.con (.int (2147483563))) .nil))) (.cons (.var 3) .nil))))
  .nil)))))))))⟩
def fn2 : Fn := ⟨2, 3, (.cons (.ifs (.prim .lt (.cons (.prim .ix (.cons (.var 0) (.cons (.con (.int (2))) .nil))) (.cons (.var 1) .nil))) (.cons (.asg (.sub (.var 0) (.con (.int (2)))) (.call 1 (.cons (.var 0) .nil)))
  .nil) .nil)
  (.cons (.asg (.name 2) (.prim .mod (.cons (.prim .int (.cons (.prim .ix (.cons (.var 0) (.cons (.con (.int (2))) .nil))) .nil)) (.cons (.var 1) .nil))))
  (.cons (.asg (.sub (.var 0) (.con (.int (2)))) (.prim .fdiv (.cons (.prim .ix (.cons (.var 0) (.cons (.con (.int (2))) .nil))) (.cons (.var 1) .nil))))
  (.cons (.ret (.var 2))
  .nil))))⟩
def fn3 : Fn := ⟨1, 2, (.cons (.asg (.name 1) (.prim .lst (.cons (.prim (.isin [.own 2]) (.cons (.var 0) .nil)) (.cons (.prim (.isin [.own 3]) (.cons (.var 0) .nil)) (.cons (.prim (.isin [.own 4]) (.cons (.var 0) .nil)) .nil)))))
  (.cons (.asg (.name 1) (.prim .add (.cons (.var 1) (.cons (.prim .lst (.cons (.prim (.isin [.own 5]) (.cons (.var 0) .nil)) (.cons (.prim (.isin [.own 6]) (.cons (.var 0) .nil)) (.cons (.prim (.isin [.own 7]) (.cons (.var 0) .nil)) .nil)))) .nil))))
  (.cons (.asg (.name 1) (.prim .add (.cons (.var 1) (.cons (.prim .lst (.cons (.prim (.isin [.own 8]) (.cons (.var 0) .nil)) (.cons (.prim (.isin [.own 9]) (.cons (.var 0) .nil)) (.cons (.prim (.isin [.own 10]) (.cons (.var 0) .nil)) .nil)))) .nil))))
  (.cons (.asg (.name 1) (.prim .add (.cons (.var 1) (.cons (.prim .lst (.cons (.prim (.isin [.own 11]) (.cons (.var 0) .nil)) (.cons (.prim (.isin [.own 12]) (.cons (.var 0) .nil)) (.cons (.prim (.isin [.own 13]) (.cons (.var 0) .nil)) .nil)))) .nil))))
  (.cons (.asg (.name 1) (.prim .add (.cons (.var 1) (.cons (.prim .lst (.cons (.prim (.isin [.own 14]) (.cons (.var 0) .nil)) (.cons (.prim (.isin [.own 15]) (.cons (.var 0) .nil)) (.cons (.prim (.isin [.own 16]) (.cons (.var 0) .nil)) .nil)))) .nil))))
  (.cons (.asg (.name 1) (.prim .add (.cons (.var 1) (.cons (.prim .lst (.cons (.prim (.isin [.own 17]) (.cons (.var 0) .nil)) (.cons (.prim (.isin [.own 18]) (.cons (.var 0) .nil)) (.cons (.prim (.isin [.own 19]) (.cons (.var 0) .nil)) .nil)))) .nil))))
  (.cons (.asg (.name 1) (.prim .add (.cons (.var 1) (.cons (.prim .lst (.cons (.prim (.isin [.own 20]) (.cons (.var 0) .nil)) (.cons (.prim (.isin [.own 21]) (.cons (.var 0) .nil)) (.cons (.prim (.isin [.own 22]) (.cons (.var 0) .nil)) .nil)))) .nil))))
  (.cons (.asg (.name 1) (.prim .add (.cons (.var 1) (.cons (.prim .lst (.cons (.prim (.isin [.own 23]) (.cons (.var 0) .nil)) (.cons (.prim (.isin [.own 24]) (.cons (.var 0) .nil)) (.cons (.prim (.isin [.own 25]) (.cons (.var 0) .nil)) .nil)))) .nil))))
  (.cons (.asg (.name 1) (.prim .add (.cons (.var 1) (.cons (.prim .lst (.cons (.prim (.isin [.own 26]) (.cons (.var 0) .nil)) (.cons (.prim (.isin [.own 27]) (.cons (.var 0) .nil)) (.cons (.prim (.isin [.own 28]) (.cons (.var 0) .nil)) .nil)))) .nil))))
  (.cons (.asg (.name 1) (.prim .add (.cons (.var 1) (.cons (.prim .lst (.cons (.prim (.isin [.own 29]) (.cons (.var 0) .nil)) (.cons (.prim (.isin [.own 30]) (.cons (.var 0) .nil)) (.cons (.prim (.isin [.own 32]) (.cons (.var 0) .nil)) .nil)))) .nil))))
  (.cons (.asg (.name 1) (.prim .add (.cons (.var 1) (.cons (.prim .lst (.cons (.prim (.isin [.own 33]) (.cons (.var 0) .nil)) (.cons (.prim (.isin [.own 31]) (.cons (.var 0) .nil)) (.cons (.prim (.isin [.own 34]) (.cons (.var 0) .nil)) .nil)))) .nil))))
  (.cons (.ret (.var 1))
  .nil))))))))))))⟩
def fn4 : Fn := ⟨1, 2, (.cons (.asg (.name 1) (.prim .lst (.cons (.prim (.isin [.own 0]) (.cons (.var 0) .nil)) (.cons (.prim (.isin [.bex 0]) (.cons (.var 0) .nil)) .nil))))
  (.cons (.ret (.prim .add (.cons (.var 1) (.cons (.prim .lst (.cons (.prim (.isin [.own 1]) (.cons (.var 0) .nil)) (.cons (.prim (.isin [.bex 1]) (.cons (.var 0) .nil)) .nil))) .nil))))
  .nil))⟩
def fn5 : Fn := ⟨0, 1, (.cons (.asg (.name 0) (.prim .lst (.cons (.mexc 2 .nil) (.cons (.mexc 3 .nil) (.cons (.mexc 4 .nil) (.cons (.mexc 5 .nil) (.cons (.mexc 6 .nil) (.cons (.mexc 7 .nil) (.cons (.mexc 8 .nil) (.cons (.mexc 9 .nil) .nil))))))))))
  (.cons (.ret (.prim .add (.cons (.var 0) (.cons (.prim .lst (.cons (.mexc 10 .nil) (.cons (.mexc 11 .nil) (.cons (.mexc 12 .nil) (.cons (.mexc 13 .nil) (.cons (.mexc 14 .nil) .nil)))))) .nil))))
  .nil))⟩
def fn6 : Fn := ⟨2, 3, (.cons (.asg (.name 2) (.prim .lst (.cons (.mexc 17 (.cons (.var 0) .nil)) (.cons (.mexc 18 (.cons (.var 0) .nil)) (.cons (.mexc 19 (.cons (.var 0) .nil)) (.cons (.mexc 20 (.cons (.var 1) .nil)) (.cons (.mexc 21 (.cons (.var 1) .nil)) (.cons (.mexc 22 (.cons (.var 1) .nil)) .nil))))))))
  (.cons (.ret (.prim .add (.cons (.var 2) (.cons (.prim .lst (.cons (.mexc 23 (.cons (.var 1) .nil)) .nil)) .nil))))
  .nil))⟩
def fn7 : Fn := ⟨3, 11, (.cons (.for_ (.name 3) (.rng1 (.con (.int (7)))) (.cons (.asg (.name 4) (.prim .ix (.cons (.call 6 (.cons (.var 0) (.cons (.var 1) .nil))) (.cons (.var 3) .nil))))
  (.cons (.ifs (.cmpR true (.ite (.prim .lt (.cons (.var 3) (.cons (.con (.int (3))) .nil))) (.prim (.fld 2) (.cons (.var 4) .nil)) (.prim (.fld 3) (.cons (.var 4) .nil))) (.ite (.prim .lt (.cons (.var 3) (.cons (.con (.int (3))) .nil))) (.var 0) (.var 1))) (.cons (.ret (.con (.bl false)))
  .nil) .nil)
  .nil)))
  (.cons (.asg (.tup (.cons (.name 5) (.cons (.name 6) (.cons (.name 7) (.cons (.name 8) .nil))))) (.prim .tup (.cons (.mexc 15 (.cons (.var 0) (.cons (.var 2) .nil))) (.cons (.mexc 16 (.cons (.var 0) (.cons (.var 2) .nil))) (.cons (.mexc 26 (.cons (.var 0) (.cons (.var 2) .nil))) (.cons (.mexc 34 (.cons (.var 0) (.cons (.var 2) .nil))) .nil))))))
  (.cons (.asg (.name 9) (.prim .lst (.cons (.prim .tup (.cons (.prim (.fld 0) (.cons (.var 5) .nil)) (.cons (.prim (.fld 1) (.cons (.var 5) .nil)) .nil))) (.cons (.prim .tup (.cons (.prim (.fld 0) (.cons (.var 6) .nil)) (.cons (.prim (.fld 1) (.cons (.var 6) .nil)) .nil))) (.cons (.prim .tup (.cons (.prim (.fld 2) (.cons (.var 7) .nil)) (.cons (.prim (.fld 6) (.cons (.var 7) .nil)) .nil))) (.cons (.prim .tup (.cons (.prim (.fld 2) (.cons (.var 8) .nil)) (.cons (.prim (.fld 6) (.cons (.var 8) .nil)) .nil))) .nil))))))
  (.cons (.ifs (.or (.cmpR true (.var 9) (.prim .mul (.cons (.prim .lst (.cons (.prim .tup (.cons (.var 0) (.cons (.prim .tupof (.cons (.var 2) .nil)) .nil))) .nil)) (.cons (.con (.int (4))) .nil)))) (.cmpR true (.prim (.fld 7) (.cons (.mexc 27 (.cons (.var 2) .nil)) .nil)) (.prim .tupof (.cons (.var 2) .nil)))) (.cons (.ret (.con (.bl false)))
  .nil) .nil)
  (.cons (.asg (.name 4) (.mexc 25 (.cons (.prim .tup (.cons (.var 1) .nil)) (.cons (.var 0) .nil))))
  (.cons (.ifs (.cmpR true (.prim .tup (.cons (.prim (.fld 4) (.cons (.var 4) .nil)) (.cons (.prim (.fld 5) (.cons (.var 4) .nil)) (.cons (.prim (.fld 4) (.cons (.mexc 24 (.cons (.prim .tup (.cons (.var 1) (.cons (.con (.int (0))) .nil))) .nil)) .nil)) .nil)))) (.prim .tup (.cons (.prim .tup (.cons (.var 1) .nil)) (.cons (.var 0) (.cons (.prim .tup (.cons (.var 1) (.cons (.con (.int (0))) .nil))) .nil))))) (.cons (.ret (.con (.bl false)))
  .nil) .nil)
  (.cons (.asg (.name 10) (.prim .lst (.cons (.prim (.fld 2) (.cons (.mexc 28 (.cons (.var 0) .nil)) .nil)) (.cons (.prim (.fld 2) (.cons (.mexc 29 (.cons (.var 0) .nil)) .nil)) (.cons (.prim (.fld 2) (.cons (.mexc 30 (.cons (.var 0) .nil)) .nil)) (.cons (.prim (.fld 2) (.cons (.mexc 32 (.cons (.var 0) .nil)) .nil)) .nil))))))
  (.cons (.ret (.prim .eq (.cons (.prim .add (.cons (.var 10) (.cons (.prim .lst (.cons (.prim (.fld 2) (.cons (.mexc 33 (.cons (.var 0) .nil)) .nil)) (.cons (.prim (.fld 8) (.cons (.mexc 31 (.cons (.prim .tup (.cons (.var 0) (.cons (.prim .tup .nil) .nil))) .nil)) .nil)) .nil))) .nil))) (.cons (.prim .add (.cons (.prim .mul (.cons (.prim .lst (.cons (.var 0) .nil)) (.cons (.con (.int (5))) .nil))) (.cons (.prim .lst (.cons (.prim .tup (.cons (.var 0) (.cons (.prim .tup .nil) .nil))) .nil)) .nil))) .nil))))
  .nil))))))))⟩
def fn8 : Fn := ⟨1, 9, (.cons (.asg (.name 1) (.call 0 (.cons (.var 0) .nil)))
  (.cons (.for_ (.name 2) (.rng1 (.con (.int (2)))) (.cons .nrm
  (.cons (.asg (.name 3) (.prim .ix (.cons (.prim .lst (.cons (.con (.str ("" : Str))) (.cons (.con (.str ("x" : Str))) (.cons (.con (.str ("no such worth" : Str))) (.cons (.con (.str ("r0" : Str))) (.cons (.prim .mul (.cons (.con (.str ("x" : Str))) (.cons (.con (.int (100))) .nil))) .nil)))))) (.cons (.call 2 (.cons (.var 1) (.cons (.con (.int (5))) .nil))) .nil))))
  (.cons .nrm
  (.cons (.asg (.name 4) (.prim .ix (.cons (.prim .lst (.cons (.con (.int (0))) (.cons (.con (.int (1))) (.cons (.con (.int (7))) (.cons (.con (.int (200))) (.cons (.prim .pow (.cons (.con (.int (10))) (.cons (.con (.int (30))) .nil))) .nil)))))) (.cons (.call 2 (.cons (.var 1) (.cons (.con (.int (5))) .nil))) .nil))))
  (.cons .nrm
  (.cons (.asg (.name 5) (.prim .ix (.cons (.prim .lst (.cons (.prim .lst (.cons (.con (.str ("a" : Str))) (.cons (.con (.str ("b" : Str))) .nil))) (.cons (.prim .lst .nil) (.cons (.prim .tup (.cons (.con (.str ("a" : Str))) .nil)) (.cons (.prim .lst (.cons (.prim .tup (.cons (.con (.str ("p" : Str))) (.cons (.prim .tup (.cons (.con (.str ("a" : Str))) .nil)) .nil))) .nil)) .nil))))) (.cons (.call 2 (.cons (.var 1) (.cons (.con (.int (4))) .nil))) .nil))))
  (.cons .nrm
  (.cons (.asg (.name 6) (.prim .add (.cons (.prim .add (.cons (.call 5 .nil) (.cons (.prim .lst (.cons (.mexc 15 (.cons (.var 3) (.cons (.var 5) .nil))) (.cons (.mexc 16 (.cons (.var 3) (.cons (.var 5) .nil))) .nil))) .nil))) (.cons (.call 6 (.cons (.var 3) (.cons (.var 4) .nil))) .nil))))
  (.cons .nrm
  (.cons (.asg (.name 6) (.prim .add (.cons (.var 6) (.cons (.prim .lst (.cons (.mexc 24 (.cons (.prim .tup (.cons (.var 4) (.cons (.con (.int (0))) .nil))) .nil)) (.cons (.mexc 25 (.cons (.prim .tup (.cons (.var 4) .nil)) (.cons (.var 3) .nil))) (.cons (.mexc 26 (.cons (.var 3) (.cons (.var 5) .nil))) (.cons (.mexc 27 (.cons (.var 5) .nil)) .nil))))) .nil))))
  (.cons .nrm
  (.cons (.asg (.name 6) (.prim .add (.cons (.var 6) (.cons (.prim .lst (.cons (.mexc 28 (.cons (.var 3) .nil)) (.cons (.mexc 29 (.cons (.var 3) .nil)) (.cons (.mexc 30 (.cons (.var 3) .nil)) (.cons (.mexc 32 (.cons (.var 3) .nil)) .nil))))) .nil))))
  (.cons .nrm
  (.cons (.asg (.name 6) (.prim .add (.cons (.var 6) (.cons (.prim .lst (.cons (.mexc 33 (.cons (.var 3) .nil)) (.cons (.mexc 31 (.cons (.prim .tup (.cons (.var 3) (.cons (.prim .tup .nil) .nil))) .nil)) (.cons (.mexc 34 (.cons (.var 3) (.cons (.var 5) .nil))) .nil)))) .nil))))
  (.cons .nrm
  (.cons (.for_ (.name 7) (.rng1 (.prim .len (.cons (.var 6) .nil))) (.cons (.ifs (.prim .ne (.cons (.call 3 (.cons (.prim .ix (.cons (.var 6) (.cons (.var 7) .nil))) .nil)) (.cons (.comp [8] (.name 8) (.rng1 (.prim .len (.cons (.var 6) .nil))) .nil (.prim .eq (.cons (.var 8) (.cons (.var 7) .nil)))) .nil))) (.cons (.ret (.con (.bl false)))
  .nil) .nil)
  (.cons (.ifs (.prim .ne (.cons (.call 4 (.cons (.prim .ix (.cons (.var 6) (.cons (.var 7) .nil))) .nil)) (.cons (.prim .lst (.cons (.prim .lt (.cons (.var 7) (.cons (.con (.int (26))) .nil))) (.cons (.prim .lt (.cons (.var 7) (.cons (.con (.int (26))) .nil))) (.cons (.prim .gt (.cons (.var 7) (.cons (.con (.int (25))) .nil))) (.cons (.prim .gt (.cons (.var 7) (.cons (.con (.int (25))) .nil))) .nil))))) .nil))) (.cons (.ret (.con (.bl false)))
  .nil) .nil)
  .nil)))
  (.cons .nrm
  (.cons (.ifs (.or (.prim .ne (.cons (.prim .len (.cons (.var 6) .nil)) (.cons (.con (.int (33))) .nil))) (.not (.call 7 (.cons (.var 3) (.cons (.var 4) (.cons (.var 5) .nil)))))) (.cons .nrm
  (.cons (.ret (.con (.bl false)))
  .nil)) .nil)
  .nil)))))))))))))))))))
  (.cons (.ret (.con (.bl true)))
  .nil)))⟩
def cl0 : Cls := ⟨[], false, 0, [], []⟩
def cl1 : Cls := ⟨[], false, 0, [], []⟩
def cl2 : Cls := ⟨[.own 2, .own 0, .bex 0], true, 0, [], [.txt ("no scale" : Str)]⟩
def cl3 : Cls := ⟨[.own 3, .own 0, .bex 0], true, 0, [], [.txt ("as many images as worths are needed" : Str)]⟩
def cl4 : Cls := ⟨[.own 4, .own 0, .bex 0], true, 0, [], [.txt ("no table" : Str)]⟩
def cl5 : Cls := ⟨[.own 5, .own 0, .bex 0], true, 0, [], [.txt ("no tree" : Str)]⟩
def cl6 : Cls := ⟨[.own 6, .own 0, .bex 0], true, 0, [], [.txt ("each worth stands in one block, once" : Str)]⟩
def cl7 : Cls := ⟨[.own 7, .own 0, .bex 0], true, 0, [], [.txt ("no paper of right lines" : Str)]⟩
def cl8 : Cls := ⟨[.own 8, .own 0, .bex 0], true, 0, [], [.txt ("this turn cannot be done" : Str)]⟩
def cl9 : Cls := ⟨[.own 9, .own 0, .bex 0], true, 0, [], [.txt ("no deed" : Str)]⟩
def cl10 : Cls := ⟨[.own 10, .own 0, .bex 0], true, 0, [], [.txt ("the scales are not the same" : Str)]⟩
def cl11 : Cls := ⟨[.own 11, .own 0, .bex 0], true, 0, [], [.txt ("the frames are not the same" : Str)]⟩
def cl12 : Cls := ⟨[.own 12, .own 0, .bex 0], true, 0, [], [.txt ("the ones of this scale do not come to rest" : Str)]⟩
def cl13 : Cls := ⟨[.own 13, .own 0, .bex 0], true, 0, [], [.txt ("more than the bound" : Str)]⟩
def cl14 : Cls := ⟨[.own 14, .own 0, .bex 0], true, 0, [], [.txt ("there is nothing to take back" : Str)]⟩
def cl15 : Cls := ⟨[.own 15, .own 0, .bex 0], true, 2, [(0, (0, false)), (1, (1, true))], [.txt ("the blocks do not keep the " : Str), .fmt 0]⟩
def cl16 : Cls := ⟨[.own 16, .own 0, .bex 0], true, 2, [(0, (0, false)), (1, (1, true))], [.txt ("the map does not keep the " : Str), .fmt 0]⟩
def cl17 : Cls := ⟨[.own 17, .own 0, .bex 0], true, 1, [(2, (0, false))], [.txt ("the frame cannot have " : Str), .rep 0, .txt (" so" : Str)]⟩
def cl18 : Cls := ⟨[.own 18, .own 0, .bex 0], true, 1, [(2, (0, false))], [.txt ("no word: " : Str), .rep 0]⟩
def cl19 : Cls := ⟨[.own 19, .own 0, .bex 0], true, 1, [(2, (0, false))], [.txt ("no thing: " : Str), .rep 0]⟩
def cl20 : Cls := ⟨[.own 20, .own 0, .bex 0], true, 1, [(3, (0, false))], [.txt ("entry " : Str), .fmt 0, .txt (" is no rule" : Str)]⟩
def cl21 : Cls := ⟨[.own 21, .own 0, .bex 0], true, 1, [(3, (0, false))], [.txt ("entry " : Str), .fmt 0, .txt (" is no row" : Str)]⟩
def cl22 : Cls := ⟨[.own 22, .own 0, .bex 0], true, 1, [(3, (0, false))], [.txt ("there is no line " : Str), .fmt 0]⟩
def cl23 : Cls := ⟨[.own 23, .own 0, .bex 0], true, 1, [(3, (0, false))], [.txt ("there is no state " : Str), .fmt 0]⟩
def cl24 : Cls := ⟨[.own 24, .own 0, .bex 0], true, 1, [(4, (0, false))], [.txt ("the text cannot go on like this at " : Str), .fmt 0]⟩
def cl25 : Cls := ⟨[.own 25, .own 0, .bex 0], true, 2, [(4, (0, false)), (5, (1, false))], [.txt ("no question, at " : Str), .fmt 0, .txt (": " : Str), .fmt 1]⟩
def cl26 : Cls := ⟨[.own 26, .own 0, .bex 0], true, 2, [(2, (0, false)), (6, (1, true))], [.txt ("told already: " : Str), .rep 0]⟩
def cl27 : Cls := ⟨[.own 27, .own 0, .bex 0], true, 1, [(7, (0, true))], [.txt ("both sides changed the same to unlike ones" : Str)]⟩
def cl28 : Cls := ⟨[.own 28, .own 1, .bex 1], true, 1, [(2, (0, false))], [.txt ("no worth " : Str), .rep 0]⟩
def cl29 : Cls := ⟨[.own 29, .own 1, .bex 1], true, 1, [(2, (0, false))], [.txt ("no name " : Str), .rep 0]⟩
def cl30 : Cls := ⟨[.own 30, .own 1, .bex 1], true, 1, [(2, (0, false))], [.txt ("no thing " : Str), .rep 0]⟩
def cl31 : Cls := ⟨[.own 31, .own 1, .bex 1], true, 1, [(8, (0, false))], [.txt ("no ruled fact " : Str), .rep 0]⟩
def cl32 : Cls := ⟨[.own 32, .own 1, .bex 1], true, 1, [(2, (0, false))], [.txt ("no rule " : Str), .rep 0]⟩
def cl33 : Cls := ⟨[.own 33, .own 1, .bex 1], true, 1, [(2, (0, false))], [.txt ("not told: " : Str), .rep 0]⟩
def cl34 : Cls := ⟨[.own 34, .own 1, .bex 1], true, 2, [(2, (0, false)), (6, (1, true))], [.txt ("no row of " : Str), .rep 0]⟩
def Tl : Tab := ⟨[fn0, fn1, fn2, fn3, fn4, fn5, fn6, fn7, fn8],
  [cl0, cl1, cl2, cl3, cl4, cl5, cl6, cl7, cl8, cl9, cl10, cl11, cl12, cl13, cl14, cl15, cl16, cl17, cl18, cl19, cl20, cl21, cl22, cl23, cl24, cl25, cl26, cl27, cl28, cl29, cl30, cl31, cl32, cl33, cl34]⟩

end Law
set_option Elab.async false
set_option linter.all false
set_option maxRecDepth 1000000
set_option maxHeartbeats 0
namespace Law
open Pyi PySem
theorem data_ints {h : Hh} (L : List Int) : (L.map D.int).mapM (data 39 h) = some (L.map PyData.int) := by
  induction L with
  | nil => rfl
  | cons i L ih =>
    rw [List.map_cons, List.mapM_cons, ih]
    rfl
theorem depth_ints (L : List Int) : PyData.depthAll (L.map PyData.int) = 0 := by
  induction L with
  | nil => rfl
  | cons i L ih =>
    rw [List.map_cons, PyData.depthAll, ih]
    rfl
theorem lay_ints (L : List Int) : PyData.canLayAll0 (L.map PyData.int) = true := by
  induction L with
  | nil => rfl
  | cons i L ih => simp only [List.map, PyData.canLayAll0, PyData.canLay0, ih, Bool.and_self]
theorem shaped_ints (L : List Int) : SeqAt.shaped (.list (L.map PyData.int)) = true := by
  unfold SeqAt.shaped
  rw [PyData.canLay0, lay_ints, PyData.depth, depth_ints]
  rfl
theorem eqv_ints (L : List Int) : PyData.eqv (.list (L.map PyData.int)) (.list []) = L.isEmpty := by
  cases L with
  | nil => rfl
  | cons i L => rfl
theorem pEqE_ints {h : Hh} {a : Nat} {L : List Int} (e : h.f a = some (.lst (L.map D.int))) : pEqE true (.ref a) h = some (.bl (!L.isEmpty), h) := by
  have d : data 40 h (.ref a) = some (.list (L.map PyData.int)) := by
    show (match (h.f a).bind O.items with
      | some xs => (xs.mapM (data 39 h)).map PyData.list
      | none => none) = _
    rw [e]
    show ((L.map D.int).mapM (data 39 h)).map PyData.list = _
    rw [data_ints]
    rfl
  unfold pEqE
  rw [d]
  show (if SeqAt.shaped (.list (L.map PyData.int)) = true then _ else _) = _
  rw [shaped_ints, if_pos rfl, eqv_ints]
  cases L.isEmpty <;> rfl
theorem runFn_eq {T : Tab} {cl : Nat → List D → Hh → R D} {q : Fn} {ds : List D} {h : Hh} (e : ds.length = q.np) : runFn T cl q ds h = (match execs T cl q.body (start q.ns ds) h with
    | .next _ h1 => .ok .non h1
    | .ret d h1 => .ok d h1
    | .exc c fs _ h1 => .exc c fs h1
    | .brk _ _ => .bad
    | .cnt _ _ => .bad
    | .bad => .bad) := if_pos e
theorem small_mod {x m : Int} (h : 0 < m) (hm : m < 2 ^ 40) : smallI (x % m) = true := by
  have a := Int.emod_nonneg x (Int.ne_of_gt h)
  have b := Int.emod_lt_of_pos x h
  unfold smallI
  rw [Bool.and_eq_true, decide_eq_true_eq, decide_eq_true_eq]
  omega
theorem small_of {x : Int} (h : 0 ≤ x) (hm : x < 1000000) : smallI x = true := by
  unfold smallI
  rw [Bool.and_eq_true, decide_eq_true_eq, decide_eq_true_eq]
  omega
theorem pMul_small {x y : Int} {h : Hh} (e : smallI x = true) : pMul (.int x) (.int y) h = some (.int (x * y), h) := by
  show (if (smallI x || smallI y) = true then _ else _) = _
  rw [e]
  rfl
theorem pMul_smallR {x y : Int} {h : Hh} (e : smallI y = true) : pMul (.int x) (.int y) h = some (.int (x * y), h) := by
  show (if (smallI x || smallI y) = true then _ else _) = _
  rw [e, Bool.or_true]
  rfl
theorem pMod_pos {x y : Int} {h : Hh} (e : 0 < y) : pNum .mod (.int x) (.int y) h = some (.int (x % y), h) := if_pos e
theorem at_ints {L : List Int} {i : Int} (h0 : 0 ≤ i) (h : i < L.length) : ∃ c, L2.atI (L.map D.int) i = some (.int c) := by
  have hl : i.toNat < L.length := by omega
  refine ⟨L[i.toNat], ?_⟩
  unfold L2.atI L2.ixN
  rw [List.length_map, if_pos h0, if_pos h]
  show (L.map D.int)[i.toNat]? = _
  rw [List.getElem?_map, List.getElem?_eq_getElem hl]
  rfl
theorem next_ok {N : Nat} {h : Hh} {L : List Int} {i s : Int} (h3 : h.f 3 = some (.lst [.ref 2, .int i, .int s])) (h2 : h.f 2 = some (.lst (L.map D.int))) (hi : 0 ≤ i) (hm : i < 1000000) :
    ∃ r, callFn Tl (N + 1) 1 [.ref 3] h = .ok (.int r) (h.put 3 (.lst [.ref 2, .int (i + 1), .int s])) := by
  show ∃ r, runFn Tl (callFn Tl N) fn1 [.ref 3] h = _
  rw [runFn_eq rfl]
  have e3 : (h.put 3 (.lst [.ref 2, .int (i + 1), .int s])).f 3 = some (.lst [.ref 2, .int (i + 1), .int s]) := by rw [Hh.f_put, if_pos rfl]
  have e2 : (h.put 3 (.lst [.ref 2, .int (i + 1), .int s])).f 2 = some (.lst (L.map D.int)) := by rw [Hh.f_put, if_neg (by decide)]; exact h2
  have pe := pEqE_ints e2
  have a0 : ∀ x y z : D, L2.atI [x, y, z] 0 = some x := fun _ _ _ => rfl
  have a1 : ∀ x y z : D, L2.atI [x, y, z] 1 = some y := fun _ _ _ => rfl
  have a2 : ∀ x y z : D, L2.atI [x, y, z] 2 = some z := fun _ _ _ => rfl
  have i1 : L2.ixN 3 1 = some 1 := rfl
  have sm := small_of hi hm
  have m1 : ∀ x : Int, smallI (x % 2147483587) = true := fun x => small_mod (by decide) (by decide)
  have m2 : ∀ x : Int, smallI (x % 2147483563) = true := fun x => small_mod (by decide) (by decide)
  have m3 : ∀ x : Int, smallI (x % 2147483549) = true := fun x => small_mod (by decide) (by decide)
  have p18 : ∀ h, pNum .pow (.int 10) (.int 18) h = some (.int (10 ^ 18), h) := fun _ => rfl
  have k1 : smallI 2147483587 = true := by decide
  have k2 : smallI 2147483563 = true := by decide
  have k3 : smallI 37 = true := by decide
  have ni : ¬ i < 0 := by omega
  cases hL : L.isEmpty with
  | true =>
    have : L = [] := List.isEmpty_iff.mp hL
    subst this
    simp [fn1, Pyi.start, Pyi.execs, Pyi.exec, evalE, evalEs, evalT, look, prim, primN, prim1, prim2, prim3, pIx, h3, h2, e2, e3, pe, seqOf, O.items, R.bind, R.of, SR.of, seqK, store, R.opt, setIx, a0, a1, a2, i1, pAdd, pMul_small, pMul_smallR, k1, k2, k3, pMod_pos, p18, pNum, okI, okB, rTruth, truth, pInt, pLen, sm, m1, m2, m3, ni]
  | false =>
    have hl : (0 : Int) < (L.length : Nat) := by
      cases L with
      | nil => cases hL
      | cons l L => rw [List.length_cons]; omega
    obtain ⟨c, hc⟩ := at_ints (L := L) (i := i % (L.length : Nat)) (Int.emod_nonneg _ (Int.ne_of_gt hl)) (Int.emod_lt_of_pos _ hl)
    have hl2 : 0 < L.length := by omega
    by_cases q1 : i < (L.length : Int)
    · by_cases q2 : (1000000000000000000 : Int) ≤ c
      · simp [fn1, Pyi.start, Pyi.execs, Pyi.exec, evalE, evalEs, evalT, look, prim, primN, prim1, prim2, prim3, pIx, h3, h2, e2, e3, pe, seqOf, O.items, R.bind, R.of, SR.of, seqK, store, R.opt, setIx, a0, a1, a2, i1, pAdd, pMul_small, pMul_smallR, k1, k2, k3, pMod_pos, p18, pNum, okI, okB, rTruth, truth, pInt, pLen, sm, m1, m2, m3, hc, hl, hl2, hL, q1, q2]
      · simp [fn1, Pyi.start, Pyi.execs, Pyi.exec, evalE, evalEs, evalT, look, prim, primN, prim1, prim2, prim3, pIx, h3, h2, e2, e3, pe, seqOf, O.items, R.bind, R.of, SR.of, seqK, store, R.opt, setIx, a0, a1, a2, i1, pAdd, pMul_small, pMul_smallR, k1, k2, k3, pMod_pos, p18, pNum, okI, okB, rTruth, truth, pInt, pLen, sm, m1, m2, m3, hc, hl, hl2, hL, q1, q2]
    · simp [fn1, Pyi.start, Pyi.execs, Pyi.exec, evalE, evalEs, evalT, look, prim, primN, prim1, prim2, prim3, pIx, h3, h2, e2, e3, pe, seqOf, O.items, R.bind, R.of, SR.of, seqK, store, R.opt, setIx, a0, a1, a2, i1, pAdd, pMul_small, pMul_smallR, k1, k2, k3, pMod_pos, p18, pNum, okI, okB, rTruth, truth, pInt, pLen, sm, m1, m2, m3, hc, hl, hl2, hL, q1]
end Law
set_option Elab.async false
set_option linter.all false
set_option maxRecDepth 1000000
set_option maxHeartbeats 0
namespace Law
open Pyi PySem
/-- the pen: what stands at 2 and 3; m: at most so many numbers were made -/
structure Pen (g : Nat → Option O) (m : Int) : Prop where
  ex : ∃ (i s : Int) (L : List Int), g 3 = some (.lst [.ref 2, .int i, .int s]) ∧ 0 ≤ i ∧ i ≤ m ∧ g 2 = some (.lst (L.map D.int))
theorem draw_ok {N : Nat} {h : Hh} {m u : Int} (p : Pen h.f m) (hm : m < 1000000) (hu : 0 < u) (hu2 : u < 1073741824) :
    ∃ d h', callFn Tl (N + 2) 2 [.ref 3, .int u] h = .ok (.int d) h' ∧ 0 ≤ d ∧ d < u ∧ h'.n = h.n ∧ Pen h'.f (m + 1) ∧ ∀ a, a ≠ 3 → h'.f a = h.f a := by
  obtain ⟨i, s, L, h3, hi, him, h2⟩ := p.ex
  show ∃ d h', runFn Tl (callFn Tl (N + 1)) fn2 [.ref 3, .int u] h = _ ∧ _
  rw [runFn_eq rfl]
  have a0 : ∀ x y z : D, L2.atI [x, y, z] 0 = some x := fun _ _ _ => rfl
  have a1 : ∀ x y z : D, L2.atI [x, y, z] 1 = some y := fun _ _ _ => rfl
  have a2 : ∀ x y z : D, L2.atI [x, y, z] 2 = some z := fun _ _ _ => rfl
  have i2 : L2.ixN 3 2 = some 2 := rfl
  by_cases q : s < u
  · obtain ⟨r, hr⟩ := next_ok (N := N) h3 h2 hi (by omega)
    refine ⟨r % u, ((h.put 3 (.lst [.ref 2, .int (i + 1), .int s])).put 3 (.lst [.ref 2, .int (i + 1), .int r])).put 3 (.lst [.ref 2, .int (i + 1), .int (r / u)]), ?_, Int.emod_nonneg _ (Int.ne_of_gt hu), Int.emod_lt_of_pos _ hu, rfl, ⟨i + 1, r / u, L, by rw [Hh.f_put, if_pos rfl], by omega, by omega, by rw [Hh.f_put, Hh.f_put, Hh.f_put]; exact h2⟩, fun a ha => by rw [Hh.f_put, Hh.f_put, Hh.f_put, if_neg ha, if_neg ha, if_neg ha]⟩
    simp [fn2, Pyi.start, Pyi.execs, Pyi.exec, evalE, evalEs, evalT, look, prim, primN, prim1, prim2, prim3, pIx, h3, h2, seqOf, O.items, R.bind, R.of, SR.of, seqK, store, R.opt, setIx, a0, a1, a2, i2, pAdd, pMod_pos, pNum, okI, okB, rTruth, truth, pInt, pLen, q, hr, hu, hu2, Hh.f_put]
  · refine ⟨s % u, h.put 3 (.lst [.ref 2, .int i, .int (s / u)]), ?_, Int.emod_nonneg _ (Int.ne_of_gt hu), Int.emod_lt_of_pos _ hu, rfl, ⟨i, s / u, L, by rw [Hh.f_put, if_pos rfl], by omega, by omega, by rw [Hh.f_put]; exact h2⟩, fun a ha => by rw [Hh.f_put, if_neg ha]⟩
    simp [fn2, Pyi.start, Pyi.execs, Pyi.exec, evalE, evalEs, evalT, look, prim, primN, prim1, prim2, prim3, pIx, h3, h2, seqOf, O.items, R.bind, R.of, SR.of, seqK, store, R.opt, setIx, a0, a1, a2, i2, pAdd, pMod_pos, pNum, okI, okB, rTruth, truth, pInt, pLen, q, hu, hu2, Hh.f_put]
end Law
set_option Elab.async false
set_option linter.all false
set_option maxRecDepth 1000000
set_option maxHeartbeats 0
namespace Law
open Pyi PySem
def s1 : S := (.asg (.name 3) (.prim .ix (.cons (.prim .lst (.cons (.con (.str ("" : Str))) (.cons (.con (.str ("x" : Str))) (.cons (.con (.str ("no such worth" : Str))) (.cons (.con (.str ("r0" : Str))) (.cons (.prim .mul (.cons (.con (.str ("x" : Str))) (.cons (.con (.int (100))) .nil))) .nil)))))) (.cons (.call 2 (.cons (.var 1) (.cons (.con (.int (5))) .nil))) .nil))))
def s2 : S := (.asg (.name 4) (.prim .ix (.cons (.prim .lst (.cons (.con (.int (0))) (.cons (.con (.int (1))) (.cons (.con (.int (7))) (.cons (.con (.int (200))) (.cons (.prim .pow (.cons (.con (.int (10))) (.cons (.con (.int (30))) .nil))) .nil)))))) (.cons (.call 2 (.cons (.var 1) (.cons (.con (.int (5))) .nil))) .nil))))
def s3 : S := (.asg (.name 5) (.prim .ix (.cons (.prim .lst (.cons (.prim .lst (.cons (.con (.str ("a" : Str))) (.cons (.con (.str ("b" : Str))) .nil))) (.cons (.prim .lst .nil) (.cons (.prim .tup (.cons (.con (.str ("a" : Str))) .nil)) (.cons (.prim .lst (.cons (.prim .tup (.cons (.con (.str ("p" : Str))) (.cons (.prim .tup (.cons (.con (.str ("a" : Str))) .nil)) .nil))) .nil)) .nil))))) (.cons (.call 2 (.cons (.var 1) (.cons (.con (.int (4))) .nil))) .nil))))
def s4 : S := (.asg (.name 6) (.prim .add (.cons (.prim .add (.cons (.call 5 .nil) (.cons (.prim .lst (.cons (.mexc 15 (.cons (.var 3) (.cons (.var 5) .nil))) (.cons (.mexc 16 (.cons (.var 3) (.cons (.var 5) .nil))) .nil))) .nil))) (.cons (.call 6 (.cons (.var 3) (.cons (.var 4) .nil))) .nil))))
def s5 : S := (.asg (.name 6) (.prim .add (.cons (.var 6) (.cons (.prim .lst (.cons (.mexc 24 (.cons (.prim .tup (.cons (.var 4) (.cons (.con (.int (0))) .nil))) .nil)) (.cons (.mexc 25 (.cons (.prim .tup (.cons (.var 4) .nil)) (.cons (.var 3) .nil))) (.cons (.mexc 26 (.cons (.var 3) (.cons (.var 5) .nil))) (.cons (.mexc 27 (.cons (.var 5) .nil)) .nil))))) .nil))))
def s6 : S := (.asg (.name 6) (.prim .add (.cons (.var 6) (.cons (.prim .lst (.cons (.mexc 28 (.cons (.var 3) .nil)) (.cons (.mexc 29 (.cons (.var 3) .nil)) (.cons (.mexc 30 (.cons (.var 3) .nil)) (.cons (.mexc 32 (.cons (.var 3) .nil)) .nil))))) .nil))))
def s7 : S := (.asg (.name 6) (.prim .add (.cons (.var 6) (.cons (.prim .lst (.cons (.mexc 33 (.cons (.var 3) .nil)) (.cons (.mexc 31 (.cons (.prim .tup (.cons (.var 3) (.cons (.prim .tup .nil) .nil))) .nil)) (.cons (.mexc 34 (.cons (.var 3) (.cons (.var 5) .nil))) .nil)))) .nil))))
def s8 : S := (.for_ (.name 7) (.rng1 (.prim .len (.cons (.var 6) .nil))) (.cons (.ifs (.prim .ne (.cons (.call 3 (.cons (.prim .ix (.cons (.var 6) (.cons (.var 7) .nil))) .nil)) (.cons (.comp [8] (.name 8) (.rng1 (.prim .len (.cons (.var 6) .nil))) .nil (.prim .eq (.cons (.var 8) (.cons (.var 7) .nil)))) .nil))) (.cons (.ret (.con (.bl false)))
  .nil) .nil)
  (.cons (.ifs (.prim .ne (.cons (.call 4 (.cons (.prim .ix (.cons (.var 6) (.cons (.var 7) .nil))) .nil)) (.cons (.prim .lst (.cons (.prim .lt (.cons (.var 7) (.cons (.con (.int (26))) .nil))) (.cons (.prim .lt (.cons (.var 7) (.cons (.con (.int (26))) .nil))) (.cons (.prim .gt (.cons (.var 7) (.cons (.con (.int (25))) .nil))) (.cons (.prim .gt (.cons (.var 7) (.cons (.con (.int (25))) .nil))) .nil))))) .nil))) (.cons (.ret (.con (.bl false)))
  .nil) .nil)
  .nil)))
def s9 : S := (.ifs (.or (.prim .ne (.cons (.prim .len (.cons (.var 6) .nil)) (.cons (.con (.int (33))) .nil))) (.not (.call 7 (.cons (.var 3) (.cons (.var 4) (.cons (.var 5) .nil)))))) (.cons .nrm
  (.cons (.ret (.con (.bl false)))
  .nil)) .nil)
def m1 : E := (.prim .lst (.cons (.con (.str ("" : Str))) (.cons (.con (.str ("x" : Str))) (.cons (.con (.str ("no such worth" : Str))) (.cons (.con (.str ("r0" : Str))) (.cons (.prim .mul (.cons (.con (.str ("x" : Str))) (.cons (.con (.int (100))) .nil))) .nil))))))
def m2 : E := (.prim .lst (.cons (.con (.int (0))) (.cons (.con (.int (1))) (.cons (.con (.int (7))) (.cons (.con (.int (200))) (.cons (.prim .pow (.cons (.con (.int (10))) (.cons (.con (.int (30))) .nil))) .nil))))))
def m3 : E := (.prim .lst (.cons (.prim .lst (.cons (.con (.str ("a" : Str))) (.cons (.con (.str ("b" : Str))) .nil))) (.cons (.prim .lst .nil) (.cons (.prim .tup (.cons (.con (.str ("a" : Str))) .nil)) (.cons (.prim .lst (.cons (.prim .tup (.cons (.con (.str ("p" : Str))) (.cons (.prim .tup (.cons (.con (.str ("a" : Str))) .nil)) .nil))) .nil)) .nil)))))
def app : Ss → Ss → Ss
  | .nil, t => t
  | .cons s r, t => .cons s (app r t)
def segB : Ss := .cons s4 (.cons .nrm (.cons s5 (.cons .nrm (.cons s6 (.cons .nrm (.cons s7 .nil))))))
def segE : Ss := .cons .nrm (.cons s8 (.cons .nrm (.cons s9 .nil)))
def lap : Ss := .cons .nrm (.cons s1 (.cons .nrm (.cons s2 (.cons .nrm (.cons s3 (.cons .nrm (app segB segE)))))))
theorem fn8_eq : fn8 = ⟨1, 9, .cons (.asg (.name 1) (.call 0 (.cons (.var 0) .nil))) (.cons (.for_ (.name 2) (.rng1 (.con (.int 2))) lap) (.cons (.ret (.con (.bl true))) .nil))⟩ := rfl
def ovr : List (Nat × O) → (Nat → Option O) → Nat → Option O
  | [], g, a => g a
  | (b, o) :: l, g, a => match Nat.beq a b with
    | true => some o
    | false => ovr l g a
theorem ovr_eq {g : Nat → Option O} : ∀ {l : List (Nat × O)}, (∀ p ∈ l, g p.1 = some p.2) → ovr l g = g
  | [], _ => rfl
  | (b, o) :: l, h => by
    funext a
    show (match Nat.beq a b with
      | true => some o
      | false => ovr l g a) = g a
    cases e : Nat.beq a b with
    | true =>
      have := Nat.eq_of_beq_eq_true e
      subst this
      exact (h _ (List.mem_cons_self ..)).symm
    | false =>
      show ovr l g a = g a
      rw [ovr_eq fun p hp => h p (List.mem_cons_of_mem _ hp)]
def clsOf : Option O → Nat
  | some (.exo c _) => c
  | _ => 999
def pj (as cs : List Nat) : SR → Option (Nat × St × List (Option O) × List Nat)
  | .next σ h => some (h.n, σ, as.map h.f, cs.map fun a => clsOf (h.f a))
  | _ => none
def wd : Nat → D
  | 0 => .str ""
  | 1 => .str "x"
  | 2 => .str "no such worth"
  | 3 => .str "r0"
  | _ => .str (strRep "x" 100)
def nb : Nat → D
  | 0 => .int 0
  | 1 => .int 1
  | 2 => .int 7
  | 3 => .int 200
  | _ => .int 1000000000000000000000000000000
def sm (n : Nat) : Nat → D
  | 0 => .ref n
  | 1 => .ref (n + 1)
  | 2 => .tup [.str "a"]
  | _ => .ref (n + 2)
def ov (n : Nat) : List (Nat × O) := [(n, .lst [.str "a", .str "b"]), (n + 1, .lst []), (n + 2, .lst [.tup [.str "p", .tup [.str "a"]]])]
end Law
set_option Elab.async false
set_option linter.all false
set_option maxRecDepth 1000000
set_option maxHeartbeats 0
namespace Law
open Pyi PySem
theorem lt4 {P : Nat → Prop} (h0 : P 0) (h1 : P 1) (h2 : P 2) (h3 : P 3) : ∀ k, k < 4 → P k
  | 0, _ => h0
  | 1, _ => h1
  | 2, _ => h2
  | 3, _ => h3
theorem lt5 {P : Nat → Prop} (h0 : P 0) (h1 : P 1) (h2 : P 2) (h3 : P 3) (h4 : P 4) : ∀ k, k < 5 → P k
  | 0, _ => h0
  | 1, _ => h1
  | 2, _ => h2
  | 3, _ => h3
  | 4, _ => h4
theorem execs_app {T : Tab} {cl : Nat → List D → Hh → R D} : ∀ (a b : Ss) (σ : Pyi.St) (h : Hh), Pyi.execs T cl (app a b) σ h = seqK (Pyi.execs T cl a σ h) (Pyi.execs T cl b)
  | .nil, b, σ, h => rfl
  | .cons s r, b, σ, h => by
    show seqK (Pyi.exec T cl s σ h) (Pyi.execs T cl (app r b)) = seqK (seqK (Pyi.exec T cl s σ h) (Pyi.execs T cl r)) (Pyi.execs T cl b)
    cases Pyi.exec T cl s σ h with
    | next σ1 h1 => exact execs_app r b σ1 h1
    | _ => rfl
theorem execs_cons {T : Tab} {cl : Nat → List D → Hh → R D} {s : S} {r : Ss} {σ : Pyi.St} {h : Hh} : Pyi.execs T cl (.cons s r) σ h = seqK (Pyi.exec T cl s σ h) (Pyi.execs T cl r) := rfl
theorem exec_nrm {T : Tab} {cl : Nat → List D → Hh → R D} {σ : Pyi.St} {h : Hh} : Pyi.exec T cl .nrm σ h = .next σ h.norm := rfl
theorem seqK_next {σ : Pyi.St} {h : Hh} {k : Pyi.St → Hh → SR} : seqK (.next σ h) k = k σ h := rfl
theorem menu_ok {e : E} {σ : Pyi.St} {h h1 : Hh} {a k : Nat} {xs : List D} {u : Nat} {m : Int} (he : evalE Tl (callFn Tl 3) e σ h = .ok (.ref a) h1) (ha : h1.f a = some (.lst xs)) (hx : xs.length = u) (hu : 0 < u) (hu2 : u < 1000) (h3 : σ[1]? = some (some (.ref 3))) (p : Pen h1.f m) (hm : m < 1000000) (ha3 : a ≠ 3) :
    ∃ d h2, ∃ hd : d < xs.length, Pyi.exec Tl (callFn Tl 3) (.asg (.name k) (.prim .ix (.cons e (.cons (.call 2 (.cons (.var 1) (.cons (.con (.int u)) .nil))) .nil)))) σ h = .next (σ.set k (some xs[d])) h2 ∧ h2.n = h1.n ∧ Pen h2.f (m + 1) ∧ ∀ b, b ≠ 3 → h2.f b = h1.f b := by
  obtain ⟨d, h2, e1, d0, d1, hn, p2, hk⟩ := draw_ok (N := 1) p hm (u := u) (by omega) (by omega)
  have hd : d.toNat < xs.length := by omega
  refine ⟨d.toNat, h2, hd, ?_, hn, p2, hk⟩
  have ea : h2.f a = some (.lst xs) := (hk a ha3).trans ha
  have at1 : L2.atI xs d = some xs[d.toNat] := by
    unfold L2.atI L2.ixN
    rw [if_pos d0, if_pos (by omega)]
    exact List.getElem?_eq_getElem hd
  simp [Pyi.exec, evalE, evalEs, look, h3, he, e1, R.bind, R.of, SR.of, prim, primN, prim2, pIx, seqOf, ea, O.items, at1, store]
theorem pen_new {h : Hh} {m : Int} {o : O} (p : Pen h.f m) (hn : 4 ≤ h.n) : Pen (h.new o).f m := by
  obtain ⟨i, s, L, a, b, c, d⟩ := p.ex
  exact ⟨i, s, L, by rw [Hh.f_new, if_neg (by omega)]; exact a, b, c, by rw [Hh.f_new, if_neg (by omega)]; exact d⟩
theorem pen_congr {g g' : Nat → Option O} {m : Int} (p : Pen g m) (h2 : g' 2 = g 2) (h3 : g' 3 = g 3) : Pen g' m := by
  obtain ⟨i, s, L, a, b, c, d⟩ := p.ex
  exact ⟨i, s, L, h3.trans a, b, c, h2.trans d⟩
def QB (n : Nat) (R cs : List Nat) (i j k : Nat) : Prop := ∀ (g : Nat → Option O) (x2 x6 x7 x8 : Option D), pj [2, 3, n + 2, n + 3, n + 4, n + 53] R (Pyi.execs Tl (callFn Tl 3) segB [some (.ref 0), some (.ref 3), x2, some (wd i), some (nb j), some (sm (n + 2) k), x6, x7, x8] ⟨n + 6, .nil, ovr (ov (n + 2)) g⟩) = some (n + 54, [some (.ref 0), some (.ref 3), x2, some (wd i), some (nb j), some (sm (n + 2) k), some (.ref (n + 53)), x7, x8], g 2 :: g 3 :: (ov (n + 2)).map (fun p => some p.2) ++ [some (.lst (R.map D.ref))], cs)
def QD (n : Nat) (R : List Nat) (i j k : Nat) : Prop := ∀ (g : Nat → Option O) (x2 x7 x8 : Option D), pj [2, 3] [] (Pyi.exec Tl (callFn Tl 3) s9 [some (.ref 0), some (.ref 3), x2, some (wd i), some (nb j), some (sm (n + 2) k), some (.ref (n + 53)), x7, x8] ⟨n + 912, .nil, ovr ((n + 53, .lst (R.map D.ref)) :: ov (n + 2)) g⟩) = some (n + 1005, [some (.ref 0), some (.ref 3), x2, some (wd i), some (nb j), some (sm (n + 2) k), some (.ref (n + 53)), x7, x8], [g 2, g 3], [])
def exs (fs : Nat → Fs) : Nat → List Nat → List Nat → List (Nat × O)
  | i, r :: R, c :: cs => (r, .exo c (fs i)) :: exs fs (i + 1) R cs
  | _, _, _ => []
def oe (n : Nat) (R cs : List Nat) (fs : Nat → Fs) : List (Nat × O) := (n + 53, .lst (R.map D.ref)) :: exs fs 0 R cs
def QC (n : Nat) (R cs : List Nat) : Prop := ∀ (g : Nat → Option O) (fs : Nat → Fs) (x2 x3 x4 x5 x7 x8 : Option D), pj [2, 3, n + 2, n + 3, n + 4, n + 53] [] (Pyi.exec Tl (callFn Tl 3) s8 [some (.ref 0), some (.ref 3), x2, x3, x4, x5, some (.ref (n + 53)), x7, x8] ⟨n + 54, .nil, ovr (oe n R cs fs) g⟩) = some (n + 912, [some (.ref 0), some (.ref 3), x2, x3, x4, x5, some (.ref (n + 53)), some (.int 32), x8], [g 2, g 3, g (n + 2), g (n + 3), g (n + 4), some (.lst (R.map D.ref))], [])
/-- what pj tells -/
theorem pj_ok {as cs : List Nat} {r : SR} {n : Nat} {σ : Pyi.St} {os : List (Option O)} {ks : List Nat} (e : pj as cs r = some (n, σ, os, ks)) : ∃ h, r = .next σ h ∧ h.n = n ∧ as.map h.f = os ∧ cs.map (fun a => clsOf (h.f a)) = ks := by
  cases r with
  | next σ1 h =>
    have e : some (h.n, σ1, as.map h.f, cs.map fun a => clsOf (h.f a)) = some (n, σ, os, ks) := e
    injection e with e
    injection e with e1 e
    injection e with e2 e
    injection e with e3 e4
    subst e2
    exact ⟨h, rfl, e1, e3, e4⟩
  | _ => cases e
theorem cls_fs {o : Option O} {c : Nat} (e : clsOf o = c) (hc : c ≠ 999) : ∃ fs, o = some (.exo c fs) := by
  match o, e with
  | some (.exo c' fs), e =>
    have e : c' = c := e
    exact ⟨fs, by rw [e]⟩
  | none, e => exact absurd e.symm hc
  | some (.lst _), e => exact absurd e.symm hc
  | some (.frz _), e => exact absurd e.symm hc
  | some (.dic _), e => exact absurd e.symm hc
  | some (.ins _ _), e => exact absurd e.symm hc
/-- fields for all of them -/
theorem exs_ok {h : Nat → Option O} : ∀ (R cs : List Nat) (i : Nat), (∀ c ∈ cs, c ≠ 999) → R.map (fun a => clsOf (h a)) = cs → ∃ fs : Nat → Fs, ∀ p ∈ exs fs i R cs, h p.1 = some p.2
  | [], cs, i, _, _ => ⟨fun _ => [], fun p hp => by cases cs <;> cases hp⟩
  | r :: R, [], i, _, e => by cases e
  | r :: R, c :: cs, i, hc, e => by
    rw [List.map_cons] at e
    injection e with e1 e2
    obtain ⟨f0, h0⟩ := cls_fs e1 (hc c (List.mem_cons_self ..))
    obtain ⟨fs, h1⟩ := exs_ok R cs (i + 1) (fun c' hc' => hc c' (List.mem_cons_of_mem _ hc')) e2
    have cg : ∀ (R cs : List Nat) (j : Nat), i + 1 ≤ j → exs (fun k => if k = i then f0 else fs k) j R cs = exs fs j R cs := by
      intro R
      induction R with
      | nil => intro cs j _; cases cs <;> rfl
      | cons r R ih =>
        intro cs j hj
        cases cs with
        | nil => rfl
        | cons c cs =>
          show (r, O.exo c (if j = i then f0 else fs j)) :: exs _ (j + 1) R cs = (r, O.exo c (fs j)) :: exs fs (j + 1) R cs
          rw [if_neg (by omega), ih cs (j + 1) (by omega)]
    refine ⟨fun k => if k = i then f0 else fs k, fun p hp => ?_⟩
    have hp : p ∈ (r, O.exo c (if i = i then f0 else fs i)) :: exs (fun k => if k = i then f0 else fs k) (i + 1) R cs := hp
    rw [if_pos rfl, cg R cs (i + 1) (Nat.le_refl _)] at hp
    cases hp with
    | head => exact h0
    | tail _ hp => exact h1 p hp
theorem w_ok : ∀ d, d < 5 → ∀ hd, ([.str "", .str "x", .str "no such worth", .str "r0", .str (strRep "x" 100)] : List D)[d]'hd = wd d := lt5 (fun _ => rfl) (fun _ => rfl) (fun _ => rfl) (fun _ => rfl) (fun _ => rfl)
theorem n_ok : ∀ d, d < 5 → ∀ hd, ([.int 0, .int 1, .int 7, .int 200, .int 1000000000000000000000000000000] : List D)[d]'hd = nb d := lt5 (fun _ => rfl) (fun _ => rfl) (fun _ => rfl) (fun _ => rfl) (fun _ => rfl)
theorem s_ok {n : Nat} : ∀ d, d < 4 → ∀ hd, ([.ref n, .ref (n + 1), .tup [.str "a"], .ref (n + 2)] : List D)[d]'hd = sm n d := lt4 (fun _ => rfl) (fun _ => rfl) (fun _ => rfl) (fun _ => rfl)
theorem m1_ok (h : Hh) (σ : Pyi.St) : evalE Tl (callFn Tl 3) m1 σ h = .ok (.ref h.n) (h.new (.lst [.str "", .str "x", .str "no such worth", .str "r0", .str (strRep "x" 100)])) := by kernel_rfl
theorem m2_ok (h : Hh) (σ : Pyi.St) : evalE Tl (callFn Tl 3) m2 σ h = .ok (.ref h.n) (h.new (.lst [.int 0, .int 1, .int 7, .int 200, .int 1000000000000000000000000000000])) := by kernel_rfl
theorem m3_ok (h : Hh) (σ : Pyi.St) : evalE Tl (callFn Tl 3) m3 σ h = .ok (.ref (h.n + 1 + 1 + 1)) ((((h.new (.lst [.str "a", .str "b"])).new (.lst [])).new (.lst [.tup [.str "p", .tup [.str "a"]]])).new (.lst [.ref h.n, .ref (h.n + 1), .tup [.str "a"], .ref (h.n + 2)])) := by kernel_rfl
theorem s1_eq : s1 = .asg (.name 3) (.prim .ix (.cons m1 (.cons (.call 2 (.cons (.var 1) (.cons (.con (.int 5)) .nil))) .nil))) := rfl
theorem s2_eq : s2 = .asg (.name 4) (.prim .ix (.cons m2 (.cons (.call 2 (.cons (.var 1) (.cons (.con (.int 5)) .nil))) .nil))) := rfl
theorem s3_eq : s3 = .asg (.name 5) (.prim .ix (.cons m3 (.cons (.call 2 (.cons (.var 1) (.cons (.con (.int 4)) .nil))) .nil))) := rfl
theorem lap_ok {n : Nat} {R cs : List Nat} (hn : 4 ≤ n) (hc : ∀ c ∈ cs, c ≠ 999) (B : ∀ i, i < 5 → ∀ j, j < 5 → ∀ k, k < 4 → QB n R cs i j k) (C : QC n R cs) (Dd : ∀ i, i < 5 → ∀ j, j < 5 → ∀ k, k < 4 → QD n R i j k)
    {h : Hh} {m : Int} (h0 : h.n = n) (p : Pen h.f m) (hm : m < 1000) (x2 x3 x4 x5 x6 x7 x8 : Option D) :
    ∃ y3 y4 y5 y6 y7 y8 h', Pyi.execs Tl (callFn Tl 3) lap [some (.ref 0), some (.ref 3), x2, x3, x4, x5, x6, x7, x8] h = .next [some (.ref 0), some (.ref 3), x2, y3, y4, y5, y6, y7, y8] h' ∧ h'.n = n + 1005 ∧ Pen h'.f (m + 3) := by
  -- the word
  obtain ⟨d1, h1, hd1, e1, n1, p1, k1⟩ := menu_ok (k := 3) (e := m1) (σ := [some (.ref 0), some (.ref 3), x2, x3, x4, x5, x6, x7, x8]) (h := h.norm) (h1 := h.norm.new (.lst [.str "", .str "x", .str "no such worth", .str "r0", .str (strRep "x" 100)])) (u := 5) (m := m) (m1_ok ..) (by rw [Hh.f_new, if_pos rfl]) rfl (by decide) (by decide) rfl (pen_new p (by show 4 ≤ h.n; omega)) (by omega) (by show h.n ≠ 3; omega)
  have e1 : Pyi.exec Tl (callFn Tl 3) s1 [some (.ref 0), some (.ref 3), x2, x3, x4, x5, x6, x7, x8] h.norm = .next [some (.ref 0), some (.ref 3), x2, some (wd d1), x4, x5, x6, x7, x8] h1 := by
    rw [← w_ok d1 hd1 hd1, s1_eq]
    exact e1
  have n1 : h1.n = n + 1 := by rw [n1, ← h0]; rfl
  -- the number
  obtain ⟨d2, h2, hd2, e2, n2, p2, k2⟩ := menu_ok (k := 4) (e := m2) (σ := [some (.ref 0), some (.ref 3), x2, some (wd d1), x4, x5, x6, x7, x8]) (h := h1.norm) (h1 := h1.norm.new (.lst [.int 0, .int 1, .int 7, .int 200, .int 1000000000000000000000000000000])) (u := 5) (m := m + 1) (m2_ok ..) (by rw [Hh.f_new, if_pos rfl]) rfl (by decide) (by decide) rfl (pen_new p1 (by show 4 ≤ h1.n; omega)) (by omega) (by show h1.n ≠ 3; omega)
  have e2 : Pyi.exec Tl (callFn Tl 3) s2 [some (.ref 0), some (.ref 3), x2, some (wd d1), x4, x5, x6, x7, x8] h1.norm = .next [some (.ref 0), some (.ref 3), x2, some (wd d1), some (nb d2), x5, x6, x7, x8] h2 := by
    rw [← n_ok d2 hd2 hd2, s2_eq]
    exact e2
  have n2 : h2.n = n + 2 := by rw [n2]; show h1.n + 1 = _; omega
  -- the members
  obtain ⟨d3, h3, hd3, e3, n3, p3, k3⟩ := menu_ok (k := 5) (e := m3) (σ := [some (.ref 0), some (.ref 3), x2, some (wd d1), some (nb d2), x5, x6, x7, x8]) (h := h2.norm) (h1 := (((h2.norm.new (.lst [.str "a", .str "b"])).new (.lst [])).new (.lst [.tup [.str "p", .tup [.str "a"]]])).new (.lst [.ref h2.n, .ref (h2.n + 1), .tup [.str "a"], .ref (h2.n + 2)])) (u := 4) (m := m + 1 + 1) (m3_ok ..) (by rw [Hh.f_new]; exact if_pos rfl) rfl (by decide) (by decide) rfl
    (pen_new (pen_new (pen_new (pen_new p2 (by show 4 ≤ h2.n; omega)) (by show 4 ≤ h2.n + 1; omega)) (by show 4 ≤ h2.n + 1 + 1; omega)) (by show 4 ≤ h2.n + 1 + 1 + 1; omega)) (by omega) (by show h2.n + 1 + 1 + 1 ≠ 3; omega)
  have e3 : Pyi.exec Tl (callFn Tl 3) s3 [some (.ref 0), some (.ref 3), x2, some (wd d1), some (nb d2), x5, x6, x7, x8] h2.norm = .next [some (.ref 0), some (.ref 3), x2, some (wd d1), some (nb d2), some (sm (n + 2) d3), x6, x7, x8] h3 := by
    rw [← n2, ← s_ok d3 hd3 hd3, s3_eq]
    exact e3
  have n3 : h3.n = n + 6 := by rw [n3]; show h2.n + 1 + 1 + 1 + 1 = _; omega
  have o3 : ∀ p ∈ ov (n + 2), h3.f p.1 = some p.2 := by
    intro p hp
    have hp : p ∈ [(n + 2, O.lst [.str "a", .str "b"]), (n + 2 + 1, O.lst []), (n + 2 + 2, O.lst [.tup [.str "p", .tup [.str "a"]]])] := hp
    simp only [List.mem_cons, List.not_mem_nil, or_false] at hp
    have a1 : (h2.norm.new (.lst [.str "a", .str "b"])).n = n + 3 := by show h2.n + 1 = _; omega
    have a2 : ((h2.norm.new (.lst [.str "a", .str "b"])).new (.lst [])).n = n + 4 := by show h2.n + 1 + 1 = _; omega
    have a3 : (((h2.norm.new (.lst [.str "a", .str "b"])).new (.lst [])).new (.lst [.tup [.str "p", .tup [.str "a"]]])).n = n + 5 := by show h2.n + 1 + 1 + 1 = _; omega
    have a0 : h2.norm.n = n + 2 := n2
    rcases hp with q | q | q <;> subst q
    · rw [k3 _ (by show n + 2 ≠ 3; omega), Hh.f_new, if_neg (by rw [a3]; show n + 2 ≠ n + 5; omega), Hh.f_new, if_neg (by rw [a2]; show n + 2 ≠ n + 4; omega), Hh.f_new, if_neg (by rw [a1]; show n + 2 ≠ n + 3; omega), Hh.f_new, if_pos a0.symm]
    · rw [k3 _ (by show n + 2 + 1 ≠ 3; omega), Hh.f_new, if_neg (by rw [a3]; show n + 2 + 1 ≠ n + 5; omega), Hh.f_new, if_neg (by rw [a2]; show n + 2 + 1 ≠ n + 4; omega), Hh.f_new, if_pos a1.symm]
    · rw [k3 _ (by show n + 2 + 2 ≠ 3; omega), Hh.f_new, if_neg (by rw [a3]; show n + 2 + 2 ≠ n + 5; omega), Hh.f_new, if_pos a2.symm]
  -- all errors
  have b := B d1 hd1 d2 hd2 d3 hd3 h3.f x2 x6 x7 x8
  rw [ovr_eq o3, ← n3] at b
  obtain ⟨h4, e4, n4, o4, c4⟩ := pj_ok b
  simp only [List.map_cons, List.map_nil, ov, List.cons_append, List.nil_append] at o4
  injection o4 with o42 o4
  injection o4 with o43 o4
  injection o4 with o4a o4
  injection o4 with o4b o4
  injection o4 with o4c o4
  injection o4 with o4d _
  obtain ⟨fs, hfs⟩ := exs_ok R cs 0 hc c4
  have n4 : h4.n = n + 54 := by omega
  -- the kinds
  have c := C h4.f fs x2 (some (wd d1)) (some (nb d2)) (some (sm (n + 2) d3)) x7 x8
  rw [ovr_eq (l := oe n R cs fs) (g := h4.f) (fun p hp => by
    cases hp with
    | head => exact o4d
    | tail _ hp => exact hfs p hp), ← n4] at c
  obtain ⟨h5, e5, n5, o5, _⟩ := pj_ok c
  simp only [List.map_cons, List.map_nil] at o5
  injection o5 with o52 o5
  injection o5 with o53 o5
  injection o5 with o5a o5
  injection o5 with o5b o5
  injection o5 with o5c o5
  injection o5 with o5d _
  have n5 : h5.n = n + 912 := by omega
  have d := Dd d1 hd1 d2 hd2 d3 hd3 h5.f x2 (some (.int 32)) x8
  rw [ovr_eq (l := (n + 53, .lst (R.map D.ref)) :: ov (n + 2)) (g := h5.f) (fun p hp => by
    cases hp with
    | head => exact o5d
    | tail _ hp =>
      have hp : p ∈ [(n + 2, O.lst [.str "a", .str "b"]), (n + 2 + 1, O.lst []), (n + 2 + 2, O.lst [.tup [.str "p", .tup [.str "a"]]])] := hp
      simp only [List.mem_cons, List.not_mem_nil, or_false] at hp
      rcases hp with q | q | q <;> subst q
      · exact o5a.trans o4a
      · exact o5b.trans o4b
      · exact o5c.trans o4c), ← n5] at d
  obtain ⟨h6, e6, n6, o6, _⟩ := pj_ok d
  simp only [List.map_cons, List.map_nil] at o6
  injection o6 with o62 o6
  injection o6 with o63 _
  refine ⟨some (wd d1), some (nb d2), some (sm (n + 2) d3), some (.ref (n + 53)), some (.int 32), x8, h6, ?_, by omega, pen_congr (m := m + 3) (by have := p3; rw [show m + 1 + 1 + 1 = m + 3 by omega] at this; exact this) (by rw [o62, o52, o42]) (by rw [o63, o53, o43])⟩
  have e4 : Pyi.execs Tl (callFn Tl 3) segB [some (.ref 0), some (.ref 3), x2, some (wd d1), some (nb d2), some (sm (n + 2) d3), x6, x7, x8] h3.norm = .next _ h4 := e4
  have e5 : Pyi.exec Tl (callFn Tl 3) s8 [some (.ref 0), some (.ref 3), x2, some (wd d1), some (nb d2), some (sm (n + 2) d3), some (.ref (n + 53)), x7, x8] h4.norm = .next _ h5 := e5
  have e6 : Pyi.exec Tl (callFn Tl 3) s9 [some (.ref 0), some (.ref 3), x2, some (wd d1), some (nb d2), some (sm (n + 2) d3), some (.ref (n + 53)), some (.int 32), x8] h5.norm = .next _ h6 := e6
  unfold lap segE
  rw [execs_cons, exec_nrm, seqK_next, execs_cons, e1, seqK_next, execs_cons, exec_nrm, seqK_next, execs_cons, e2, seqK_next, execs_cons, exec_nrm, seqK_next, execs_cons, e3, seqK_next, execs_cons, exec_nrm, seqK_next, execs_app, e4, seqK_next, execs_cons, exec_nrm, seqK_next, execs_cons, e5, seqK_next, execs_cons, exec_nrm, seqK_next, execs_cons, e6, seqK_next]
  rfl
end Law
set_option Elab.async false
set_option linter.all false
set_option maxRecDepth 1000000
set_option maxHeartbeats 0
namespace Law
open Pyi PySem
def cs0 : List Nat := [2, 3, 4, 5, 6, 7, 8, 9, 10, 11, 12, 13, 14, 15, 16, 17, 18, 19, 20, 21, 22, 23, 24, 25, 26, 27, 28, 29, 30, 32, 33, 31, 34]
def R4 : List Nat := [10, 11, 12, 13, 14, 15, 16, 17, 19, 20, 21, 22, 23, 26, 27, 30, 31, 32, 33, 34, 35, 37, 41, 42, 43, 44, 47, 48, 49, 50, 53, 54, 55]
def R1009 : List Nat := [1015, 1016, 1017, 1018, 1019, 1020, 1021, 1022, 1024, 1025, 1026, 1027, 1028, 1031, 1032, 1035, 1036, 1037, 1038, 1039, 1040, 1042, 1046, 1047, 1048, 1049, 1052, 1053, 1054, 1055, 1058, 1059, 1060]
end Law
set_option Elab.async false
set_option linter.all false
set_option maxRecDepth 1000000
set_option maxHeartbeats 0
namespace Law
open Pyi PySem
theorem B_4_0_0_0 : QB 4 R4 cs0 0 0 0 := by
  intro g x2 x6 x7 x8
  kernel_rfl
theorem D_4_0_0_0 : QD 4 R4 0 0 0 := by
  intro g x2 x7 x8
  kernel_rfl
theorem B_4_0_0_1 : QB 4 R4 cs0 0 0 1 := by
  intro g x2 x6 x7 x8
  kernel_rfl
theorem D_4_0_0_1 : QD 4 R4 0 0 1 := by
  intro g x2 x7 x8
  kernel_rfl
theorem B_4_0_0_2 : QB 4 R4 cs0 0 0 2 := by
  intro g x2 x6 x7 x8
  kernel_rfl
theorem D_4_0_0_2 : QD 4 R4 0 0 2 := by
  intro g x2 x7 x8
  kernel_rfl
theorem B_4_0_0_3 : QB 4 R4 cs0 0 0 3 := by
  intro g x2 x6 x7 x8
  kernel_rfl
theorem D_4_0_0_3 : QD 4 R4 0 0 3 := by
  intro g x2 x7 x8
  kernel_rfl
theorem B_4_0_1_0 : QB 4 R4 cs0 0 1 0 := by
  intro g x2 x6 x7 x8
  kernel_rfl
theorem D_4_0_1_0 : QD 4 R4 0 1 0 := by
  intro g x2 x7 x8
  kernel_rfl
theorem B_4_0_1_1 : QB 4 R4 cs0 0 1 1 := by
  intro g x2 x6 x7 x8
  kernel_rfl
theorem D_4_0_1_1 : QD 4 R4 0 1 1 := by
  intro g x2 x7 x8
  kernel_rfl
theorem B_4_0_1_2 : QB 4 R4 cs0 0 1 2 := by
  intro g x2 x6 x7 x8
  kernel_rfl
theorem D_4_0_1_2 : QD 4 R4 0 1 2 := by
  intro g x2 x7 x8
  kernel_rfl
theorem B_4_0_1_3 : QB 4 R4 cs0 0 1 3 := by
  intro g x2 x6 x7 x8
  kernel_rfl
theorem D_4_0_1_3 : QD 4 R4 0 1 3 := by
  intro g x2 x7 x8
  kernel_rfl
theorem B_4_0_2_0 : QB 4 R4 cs0 0 2 0 := by
  intro g x2 x6 x7 x8
  kernel_rfl
theorem D_4_0_2_0 : QD 4 R4 0 2 0 := by
  intro g x2 x7 x8
  kernel_rfl
theorem B_4_0_2_1 : QB 4 R4 cs0 0 2 1 := by
  intro g x2 x6 x7 x8
  kernel_rfl
theorem D_4_0_2_1 : QD 4 R4 0 2 1 := by
  intro g x2 x7 x8
  kernel_rfl
theorem B_4_0_2_2 : QB 4 R4 cs0 0 2 2 := by
  intro g x2 x6 x7 x8
  kernel_rfl
theorem D_4_0_2_2 : QD 4 R4 0 2 2 := by
  intro g x2 x7 x8
  kernel_rfl
theorem B_4_0_2_3 : QB 4 R4 cs0 0 2 3 := by
  intro g x2 x6 x7 x8
  kernel_rfl
theorem D_4_0_2_3 : QD 4 R4 0 2 3 := by
  intro g x2 x7 x8
  kernel_rfl
theorem B_4_0_3_0 : QB 4 R4 cs0 0 3 0 := by
  intro g x2 x6 x7 x8
  kernel_rfl
theorem D_4_0_3_0 : QD 4 R4 0 3 0 := by
  intro g x2 x7 x8
  kernel_rfl
theorem B_4_0_3_1 : QB 4 R4 cs0 0 3 1 := by
  intro g x2 x6 x7 x8
  kernel_rfl
theorem D_4_0_3_1 : QD 4 R4 0 3 1 := by
  intro g x2 x7 x8
  kernel_rfl
theorem B_4_0_3_2 : QB 4 R4 cs0 0 3 2 := by
  intro g x2 x6 x7 x8
  kernel_rfl
theorem D_4_0_3_2 : QD 4 R4 0 3 2 := by
  intro g x2 x7 x8
  kernel_rfl
theorem B_4_0_3_3 : QB 4 R4 cs0 0 3 3 := by
  intro g x2 x6 x7 x8
  kernel_rfl
theorem D_4_0_3_3 : QD 4 R4 0 3 3 := by
  intro g x2 x7 x8
  kernel_rfl
theorem B_4_0_4_0 : QB 4 R4 cs0 0 4 0 := by
  intro g x2 x6 x7 x8
  kernel_rfl
theorem D_4_0_4_0 : QD 4 R4 0 4 0 := by
  intro g x2 x7 x8
  kernel_rfl
theorem B_4_0_4_1 : QB 4 R4 cs0 0 4 1 := by
  intro g x2 x6 x7 x8
  kernel_rfl
theorem D_4_0_4_1 : QD 4 R4 0 4 1 := by
  intro g x2 x7 x8
  kernel_rfl
theorem B_4_0_4_2 : QB 4 R4 cs0 0 4 2 := by
  intro g x2 x6 x7 x8
  kernel_rfl
theorem D_4_0_4_2 : QD 4 R4 0 4 2 := by
  intro g x2 x7 x8
  kernel_rfl
theorem B_4_0_4_3 : QB 4 R4 cs0 0 4 3 := by
  intro g x2 x6 x7 x8
  kernel_rfl
theorem D_4_0_4_3 : QD 4 R4 0 4 3 := by
  intro g x2 x7 x8
  kernel_rfl
end Law
set_option Elab.async false
set_option linter.all false
set_option maxRecDepth 1000000
set_option maxHeartbeats 0
namespace Law
open Pyi PySem
theorem B_4_1_0_0 : QB 4 R4 cs0 1 0 0 := by
  intro g x2 x6 x7 x8
  kernel_rfl
theorem D_4_1_0_0 : QD 4 R4 1 0 0 := by
  intro g x2 x7 x8
  kernel_rfl
theorem B_4_1_0_1 : QB 4 R4 cs0 1 0 1 := by
  intro g x2 x6 x7 x8
  kernel_rfl
theorem D_4_1_0_1 : QD 4 R4 1 0 1 := by
  intro g x2 x7 x8
  kernel_rfl
theorem B_4_1_0_2 : QB 4 R4 cs0 1 0 2 := by
  intro g x2 x6 x7 x8
  kernel_rfl
theorem D_4_1_0_2 : QD 4 R4 1 0 2 := by
  intro g x2 x7 x8
  kernel_rfl
theorem B_4_1_0_3 : QB 4 R4 cs0 1 0 3 := by
  intro g x2 x6 x7 x8
  kernel_rfl
theorem D_4_1_0_3 : QD 4 R4 1 0 3 := by
  intro g x2 x7 x8
  kernel_rfl
theorem B_4_1_1_0 : QB 4 R4 cs0 1 1 0 := by
  intro g x2 x6 x7 x8
  kernel_rfl
theorem D_4_1_1_0 : QD 4 R4 1 1 0 := by
  intro g x2 x7 x8
  kernel_rfl
theorem B_4_1_1_1 : QB 4 R4 cs0 1 1 1 := by
  intro g x2 x6 x7 x8
  kernel_rfl
theorem D_4_1_1_1 : QD 4 R4 1 1 1 := by
  intro g x2 x7 x8
  kernel_rfl
theorem B_4_1_1_2 : QB 4 R4 cs0 1 1 2 := by
  intro g x2 x6 x7 x8
  kernel_rfl
theorem D_4_1_1_2 : QD 4 R4 1 1 2 := by
  intro g x2 x7 x8
  kernel_rfl
theorem B_4_1_1_3 : QB 4 R4 cs0 1 1 3 := by
  intro g x2 x6 x7 x8
  kernel_rfl
theorem D_4_1_1_3 : QD 4 R4 1 1 3 := by
  intro g x2 x7 x8
  kernel_rfl
theorem B_4_1_2_0 : QB 4 R4 cs0 1 2 0 := by
  intro g x2 x6 x7 x8
  kernel_rfl
theorem D_4_1_2_0 : QD 4 R4 1 2 0 := by
  intro g x2 x7 x8
  kernel_rfl
theorem B_4_1_2_1 : QB 4 R4 cs0 1 2 1 := by
  intro g x2 x6 x7 x8
  kernel_rfl
theorem D_4_1_2_1 : QD 4 R4 1 2 1 := by
  intro g x2 x7 x8
  kernel_rfl
theorem B_4_1_2_2 : QB 4 R4 cs0 1 2 2 := by
  intro g x2 x6 x7 x8
  kernel_rfl
theorem D_4_1_2_2 : QD 4 R4 1 2 2 := by
  intro g x2 x7 x8
  kernel_rfl
theorem B_4_1_2_3 : QB 4 R4 cs0 1 2 3 := by
  intro g x2 x6 x7 x8
  kernel_rfl
theorem D_4_1_2_3 : QD 4 R4 1 2 3 := by
  intro g x2 x7 x8
  kernel_rfl
theorem B_4_1_3_0 : QB 4 R4 cs0 1 3 0 := by
  intro g x2 x6 x7 x8
  kernel_rfl
theorem D_4_1_3_0 : QD 4 R4 1 3 0 := by
  intro g x2 x7 x8
  kernel_rfl
theorem B_4_1_3_1 : QB 4 R4 cs0 1 3 1 := by
  intro g x2 x6 x7 x8
  kernel_rfl
theorem D_4_1_3_1 : QD 4 R4 1 3 1 := by
  intro g x2 x7 x8
  kernel_rfl
theorem B_4_1_3_2 : QB 4 R4 cs0 1 3 2 := by
  intro g x2 x6 x7 x8
  kernel_rfl
theorem D_4_1_3_2 : QD 4 R4 1 3 2 := by
  intro g x2 x7 x8
  kernel_rfl
theorem B_4_1_3_3 : QB 4 R4 cs0 1 3 3 := by
  intro g x2 x6 x7 x8
  kernel_rfl
theorem D_4_1_3_3 : QD 4 R4 1 3 3 := by
  intro g x2 x7 x8
  kernel_rfl
theorem B_4_1_4_0 : QB 4 R4 cs0 1 4 0 := by
  intro g x2 x6 x7 x8
  kernel_rfl
theorem D_4_1_4_0 : QD 4 R4 1 4 0 := by
  intro g x2 x7 x8
  kernel_rfl
theorem B_4_1_4_1 : QB 4 R4 cs0 1 4 1 := by
  intro g x2 x6 x7 x8
  kernel_rfl
theorem D_4_1_4_1 : QD 4 R4 1 4 1 := by
  intro g x2 x7 x8
  kernel_rfl
theorem B_4_1_4_2 : QB 4 R4 cs0 1 4 2 := by
  intro g x2 x6 x7 x8
  kernel_rfl
theorem D_4_1_4_2 : QD 4 R4 1 4 2 := by
  intro g x2 x7 x8
  kernel_rfl
theorem B_4_1_4_3 : QB 4 R4 cs0 1 4 3 := by
  intro g x2 x6 x7 x8
  kernel_rfl
theorem D_4_1_4_3 : QD 4 R4 1 4 3 := by
  intro g x2 x7 x8
  kernel_rfl
end Law
set_option Elab.async false
set_option linter.all false
set_option maxRecDepth 1000000
set_option maxHeartbeats 0
namespace Law
open Pyi PySem
theorem B_4_2_0_0 : QB 4 R4 cs0 2 0 0 := by
  intro g x2 x6 x7 x8
  kernel_rfl
theorem D_4_2_0_0 : QD 4 R4 2 0 0 := by
  intro g x2 x7 x8
  kernel_rfl
theorem B_4_2_0_1 : QB 4 R4 cs0 2 0 1 := by
  intro g x2 x6 x7 x8
  kernel_rfl
theorem D_4_2_0_1 : QD 4 R4 2 0 1 := by
  intro g x2 x7 x8
  kernel_rfl
theorem B_4_2_0_2 : QB 4 R4 cs0 2 0 2 := by
  intro g x2 x6 x7 x8
  kernel_rfl
theorem D_4_2_0_2 : QD 4 R4 2 0 2 := by
  intro g x2 x7 x8
  kernel_rfl
theorem B_4_2_0_3 : QB 4 R4 cs0 2 0 3 := by
  intro g x2 x6 x7 x8
  kernel_rfl
theorem D_4_2_0_3 : QD 4 R4 2 0 3 := by
  intro g x2 x7 x8
  kernel_rfl
theorem B_4_2_1_0 : QB 4 R4 cs0 2 1 0 := by
  intro g x2 x6 x7 x8
  kernel_rfl
theorem D_4_2_1_0 : QD 4 R4 2 1 0 := by
  intro g x2 x7 x8
  kernel_rfl
theorem B_4_2_1_1 : QB 4 R4 cs0 2 1 1 := by
  intro g x2 x6 x7 x8
  kernel_rfl
theorem D_4_2_1_1 : QD 4 R4 2 1 1 := by
  intro g x2 x7 x8
  kernel_rfl
theorem B_4_2_1_2 : QB 4 R4 cs0 2 1 2 := by
  intro g x2 x6 x7 x8
  kernel_rfl
theorem D_4_2_1_2 : QD 4 R4 2 1 2 := by
  intro g x2 x7 x8
  kernel_rfl
theorem B_4_2_1_3 : QB 4 R4 cs0 2 1 3 := by
  intro g x2 x6 x7 x8
  kernel_rfl
theorem D_4_2_1_3 : QD 4 R4 2 1 3 := by
  intro g x2 x7 x8
  kernel_rfl
theorem B_4_2_2_0 : QB 4 R4 cs0 2 2 0 := by
  intro g x2 x6 x7 x8
  kernel_rfl
theorem D_4_2_2_0 : QD 4 R4 2 2 0 := by
  intro g x2 x7 x8
  kernel_rfl
theorem B_4_2_2_1 : QB 4 R4 cs0 2 2 1 := by
  intro g x2 x6 x7 x8
  kernel_rfl
theorem D_4_2_2_1 : QD 4 R4 2 2 1 := by
  intro g x2 x7 x8
  kernel_rfl
theorem B_4_2_2_2 : QB 4 R4 cs0 2 2 2 := by
  intro g x2 x6 x7 x8
  kernel_rfl
theorem D_4_2_2_2 : QD 4 R4 2 2 2 := by
  intro g x2 x7 x8
  kernel_rfl
theorem B_4_2_2_3 : QB 4 R4 cs0 2 2 3 := by
  intro g x2 x6 x7 x8
  kernel_rfl
theorem D_4_2_2_3 : QD 4 R4 2 2 3 := by
  intro g x2 x7 x8
  kernel_rfl
theorem B_4_2_3_0 : QB 4 R4 cs0 2 3 0 := by
  intro g x2 x6 x7 x8
  kernel_rfl
theorem D_4_2_3_0 : QD 4 R4 2 3 0 := by
  intro g x2 x7 x8
  kernel_rfl
theorem B_4_2_3_1 : QB 4 R4 cs0 2 3 1 := by
  intro g x2 x6 x7 x8
  kernel_rfl
theorem D_4_2_3_1 : QD 4 R4 2 3 1 := by
  intro g x2 x7 x8
  kernel_rfl
theorem B_4_2_3_2 : QB 4 R4 cs0 2 3 2 := by
  intro g x2 x6 x7 x8
  kernel_rfl
theorem D_4_2_3_2 : QD 4 R4 2 3 2 := by
  intro g x2 x7 x8
  kernel_rfl
theorem B_4_2_3_3 : QB 4 R4 cs0 2 3 3 := by
  intro g x2 x6 x7 x8
  kernel_rfl
theorem D_4_2_3_3 : QD 4 R4 2 3 3 := by
  intro g x2 x7 x8
  kernel_rfl
theorem B_4_2_4_0 : QB 4 R4 cs0 2 4 0 := by
  intro g x2 x6 x7 x8
  kernel_rfl
theorem D_4_2_4_0 : QD 4 R4 2 4 0 := by
  intro g x2 x7 x8
  kernel_rfl
theorem B_4_2_4_1 : QB 4 R4 cs0 2 4 1 := by
  intro g x2 x6 x7 x8
  kernel_rfl
theorem D_4_2_4_1 : QD 4 R4 2 4 1 := by
  intro g x2 x7 x8
  kernel_rfl
theorem B_4_2_4_2 : QB 4 R4 cs0 2 4 2 := by
  intro g x2 x6 x7 x8
  kernel_rfl
theorem D_4_2_4_2 : QD 4 R4 2 4 2 := by
  intro g x2 x7 x8
  kernel_rfl
theorem B_4_2_4_3 : QB 4 R4 cs0 2 4 3 := by
  intro g x2 x6 x7 x8
  kernel_rfl
theorem D_4_2_4_3 : QD 4 R4 2 4 3 := by
  intro g x2 x7 x8
  kernel_rfl
end Law
set_option Elab.async false
set_option linter.all false
set_option maxRecDepth 1000000
set_option maxHeartbeats 0
namespace Law
open Pyi PySem
theorem B_4_3_0_0 : QB 4 R4 cs0 3 0 0 := by
  intro g x2 x6 x7 x8
  kernel_rfl
theorem D_4_3_0_0 : QD 4 R4 3 0 0 := by
  intro g x2 x7 x8
  kernel_rfl
theorem B_4_3_0_1 : QB 4 R4 cs0 3 0 1 := by
  intro g x2 x6 x7 x8
  kernel_rfl
theorem D_4_3_0_1 : QD 4 R4 3 0 1 := by
  intro g x2 x7 x8
  kernel_rfl
theorem B_4_3_0_2 : QB 4 R4 cs0 3 0 2 := by
  intro g x2 x6 x7 x8
  kernel_rfl
theorem D_4_3_0_2 : QD 4 R4 3 0 2 := by
  intro g x2 x7 x8
  kernel_rfl
theorem B_4_3_0_3 : QB 4 R4 cs0 3 0 3 := by
  intro g x2 x6 x7 x8
  kernel_rfl
theorem D_4_3_0_3 : QD 4 R4 3 0 3 := by
  intro g x2 x7 x8
  kernel_rfl
theorem B_4_3_1_0 : QB 4 R4 cs0 3 1 0 := by
  intro g x2 x6 x7 x8
  kernel_rfl
theorem D_4_3_1_0 : QD 4 R4 3 1 0 := by
  intro g x2 x7 x8
  kernel_rfl
theorem B_4_3_1_1 : QB 4 R4 cs0 3 1 1 := by
  intro g x2 x6 x7 x8
  kernel_rfl
theorem D_4_3_1_1 : QD 4 R4 3 1 1 := by
  intro g x2 x7 x8
  kernel_rfl
theorem B_4_3_1_2 : QB 4 R4 cs0 3 1 2 := by
  intro g x2 x6 x7 x8
  kernel_rfl
theorem D_4_3_1_2 : QD 4 R4 3 1 2 := by
  intro g x2 x7 x8
  kernel_rfl
theorem B_4_3_1_3 : QB 4 R4 cs0 3 1 3 := by
  intro g x2 x6 x7 x8
  kernel_rfl
theorem D_4_3_1_3 : QD 4 R4 3 1 3 := by
  intro g x2 x7 x8
  kernel_rfl
theorem B_4_3_2_0 : QB 4 R4 cs0 3 2 0 := by
  intro g x2 x6 x7 x8
  kernel_rfl
theorem D_4_3_2_0 : QD 4 R4 3 2 0 := by
  intro g x2 x7 x8
  kernel_rfl
theorem B_4_3_2_1 : QB 4 R4 cs0 3 2 1 := by
  intro g x2 x6 x7 x8
  kernel_rfl
theorem D_4_3_2_1 : QD 4 R4 3 2 1 := by
  intro g x2 x7 x8
  kernel_rfl
theorem B_4_3_2_2 : QB 4 R4 cs0 3 2 2 := by
  intro g x2 x6 x7 x8
  kernel_rfl
theorem D_4_3_2_2 : QD 4 R4 3 2 2 := by
  intro g x2 x7 x8
  kernel_rfl
theorem B_4_3_2_3 : QB 4 R4 cs0 3 2 3 := by
  intro g x2 x6 x7 x8
  kernel_rfl
theorem D_4_3_2_3 : QD 4 R4 3 2 3 := by
  intro g x2 x7 x8
  kernel_rfl
theorem B_4_3_3_0 : QB 4 R4 cs0 3 3 0 := by
  intro g x2 x6 x7 x8
  kernel_rfl
theorem D_4_3_3_0 : QD 4 R4 3 3 0 := by
  intro g x2 x7 x8
  kernel_rfl
theorem B_4_3_3_1 : QB 4 R4 cs0 3 3 1 := by
  intro g x2 x6 x7 x8
  kernel_rfl
theorem D_4_3_3_1 : QD 4 R4 3 3 1 := by
  intro g x2 x7 x8
  kernel_rfl
theorem B_4_3_3_2 : QB 4 R4 cs0 3 3 2 := by
  intro g x2 x6 x7 x8
  kernel_rfl
theorem D_4_3_3_2 : QD 4 R4 3 3 2 := by
  intro g x2 x7 x8
  kernel_rfl
theorem B_4_3_3_3 : QB 4 R4 cs0 3 3 3 := by
  intro g x2 x6 x7 x8
  kernel_rfl
theorem D_4_3_3_3 : QD 4 R4 3 3 3 := by
  intro g x2 x7 x8
  kernel_rfl
theorem B_4_3_4_0 : QB 4 R4 cs0 3 4 0 := by
  intro g x2 x6 x7 x8
  kernel_rfl
theorem D_4_3_4_0 : QD 4 R4 3 4 0 := by
  intro g x2 x7 x8
  kernel_rfl
theorem B_4_3_4_1 : QB 4 R4 cs0 3 4 1 := by
  intro g x2 x6 x7 x8
  kernel_rfl
theorem D_4_3_4_1 : QD 4 R4 3 4 1 := by
  intro g x2 x7 x8
  kernel_rfl
theorem B_4_3_4_2 : QB 4 R4 cs0 3 4 2 := by
  intro g x2 x6 x7 x8
  kernel_rfl
theorem D_4_3_4_2 : QD 4 R4 3 4 2 := by
  intro g x2 x7 x8
  kernel_rfl
theorem B_4_3_4_3 : QB 4 R4 cs0 3 4 3 := by
  intro g x2 x6 x7 x8
  kernel_rfl
theorem D_4_3_4_3 : QD 4 R4 3 4 3 := by
  intro g x2 x7 x8
  kernel_rfl
end Law
set_option Elab.async false
set_option linter.all false
set_option maxRecDepth 1000000
set_option maxHeartbeats 0
namespace Law
open Pyi PySem
theorem B_4_4_0_0 : QB 4 R4 cs0 4 0 0 := by
  intro g x2 x6 x7 x8
  kernel_rfl
theorem D_4_4_0_0 : QD 4 R4 4 0 0 := by
  intro g x2 x7 x8
  kernel_rfl
theorem B_4_4_0_1 : QB 4 R4 cs0 4 0 1 := by
  intro g x2 x6 x7 x8
  kernel_rfl
theorem D_4_4_0_1 : QD 4 R4 4 0 1 := by
  intro g x2 x7 x8
  kernel_rfl
theorem B_4_4_0_2 : QB 4 R4 cs0 4 0 2 := by
  intro g x2 x6 x7 x8
  kernel_rfl
theorem D_4_4_0_2 : QD 4 R4 4 0 2 := by
  intro g x2 x7 x8
  kernel_rfl
theorem B_4_4_0_3 : QB 4 R4 cs0 4 0 3 := by
  intro g x2 x6 x7 x8
  kernel_rfl
theorem D_4_4_0_3 : QD 4 R4 4 0 3 := by
  intro g x2 x7 x8
  kernel_rfl
theorem B_4_4_1_0 : QB 4 R4 cs0 4 1 0 := by
  intro g x2 x6 x7 x8
  kernel_rfl
theorem D_4_4_1_0 : QD 4 R4 4 1 0 := by
  intro g x2 x7 x8
  kernel_rfl
theorem B_4_4_1_1 : QB 4 R4 cs0 4 1 1 := by
  intro g x2 x6 x7 x8
  kernel_rfl
theorem D_4_4_1_1 : QD 4 R4 4 1 1 := by
  intro g x2 x7 x8
  kernel_rfl
theorem B_4_4_1_2 : QB 4 R4 cs0 4 1 2 := by
  intro g x2 x6 x7 x8
  kernel_rfl
theorem D_4_4_1_2 : QD 4 R4 4 1 2 := by
  intro g x2 x7 x8
  kernel_rfl
theorem B_4_4_1_3 : QB 4 R4 cs0 4 1 3 := by
  intro g x2 x6 x7 x8
  kernel_rfl
theorem D_4_4_1_3 : QD 4 R4 4 1 3 := by
  intro g x2 x7 x8
  kernel_rfl
theorem B_4_4_2_0 : QB 4 R4 cs0 4 2 0 := by
  intro g x2 x6 x7 x8
  kernel_rfl
theorem D_4_4_2_0 : QD 4 R4 4 2 0 := by
  intro g x2 x7 x8
  kernel_rfl
theorem B_4_4_2_1 : QB 4 R4 cs0 4 2 1 := by
  intro g x2 x6 x7 x8
  kernel_rfl
theorem D_4_4_2_1 : QD 4 R4 4 2 1 := by
  intro g x2 x7 x8
  kernel_rfl
theorem B_4_4_2_2 : QB 4 R4 cs0 4 2 2 := by
  intro g x2 x6 x7 x8
  kernel_rfl
theorem D_4_4_2_2 : QD 4 R4 4 2 2 := by
  intro g x2 x7 x8
  kernel_rfl
theorem B_4_4_2_3 : QB 4 R4 cs0 4 2 3 := by
  intro g x2 x6 x7 x8
  kernel_rfl
theorem D_4_4_2_3 : QD 4 R4 4 2 3 := by
  intro g x2 x7 x8
  kernel_rfl
theorem B_4_4_3_0 : QB 4 R4 cs0 4 3 0 := by
  intro g x2 x6 x7 x8
  kernel_rfl
theorem D_4_4_3_0 : QD 4 R4 4 3 0 := by
  intro g x2 x7 x8
  kernel_rfl
theorem B_4_4_3_1 : QB 4 R4 cs0 4 3 1 := by
  intro g x2 x6 x7 x8
  kernel_rfl
theorem D_4_4_3_1 : QD 4 R4 4 3 1 := by
  intro g x2 x7 x8
  kernel_rfl
theorem B_4_4_3_2 : QB 4 R4 cs0 4 3 2 := by
  intro g x2 x6 x7 x8
  kernel_rfl
theorem D_4_4_3_2 : QD 4 R4 4 3 2 := by
  intro g x2 x7 x8
  kernel_rfl
theorem B_4_4_3_3 : QB 4 R4 cs0 4 3 3 := by
  intro g x2 x6 x7 x8
  kernel_rfl
theorem D_4_4_3_3 : QD 4 R4 4 3 3 := by
  intro g x2 x7 x8
  kernel_rfl
theorem B_4_4_4_0 : QB 4 R4 cs0 4 4 0 := by
  intro g x2 x6 x7 x8
  kernel_rfl
theorem D_4_4_4_0 : QD 4 R4 4 4 0 := by
  intro g x2 x7 x8
  kernel_rfl
theorem B_4_4_4_1 : QB 4 R4 cs0 4 4 1 := by
  intro g x2 x6 x7 x8
  kernel_rfl
theorem D_4_4_4_1 : QD 4 R4 4 4 1 := by
  intro g x2 x7 x8
  kernel_rfl
theorem B_4_4_4_2 : QB 4 R4 cs0 4 4 2 := by
  intro g x2 x6 x7 x8
  kernel_rfl
theorem D_4_4_4_2 : QD 4 R4 4 4 2 := by
  intro g x2 x7 x8
  kernel_rfl
theorem B_4_4_4_3 : QB 4 R4 cs0 4 4 3 := by
  intro g x2 x6 x7 x8
  kernel_rfl
theorem D_4_4_4_3 : QD 4 R4 4 4 3 := by
  intro g x2 x7 x8
  kernel_rfl
end Law
set_option Elab.async false
set_option linter.all false
set_option maxRecDepth 1000000
set_option maxHeartbeats 0
namespace Law
open Pyi PySem
theorem C_4 : QC 4 R4 cs0 := by
  intro g fs x2 x3 x4 x5 x7 x8
  kernel_rfl
end Law
set_option Elab.async false
set_option linter.all false
set_option maxRecDepth 1000000
set_option maxHeartbeats 0
namespace Law
open Pyi PySem
theorem B_1009_0_0_0 : QB 1009 R1009 cs0 0 0 0 := by
  intro g x2 x6 x7 x8
  kernel_rfl
theorem D_1009_0_0_0 : QD 1009 R1009 0 0 0 := by
  intro g x2 x7 x8
  kernel_rfl
theorem B_1009_0_0_1 : QB 1009 R1009 cs0 0 0 1 := by
  intro g x2 x6 x7 x8
  kernel_rfl
theorem D_1009_0_0_1 : QD 1009 R1009 0 0 1 := by
  intro g x2 x7 x8
  kernel_rfl
theorem B_1009_0_0_2 : QB 1009 R1009 cs0 0 0 2 := by
  intro g x2 x6 x7 x8
  kernel_rfl
theorem D_1009_0_0_2 : QD 1009 R1009 0 0 2 := by
  intro g x2 x7 x8
  kernel_rfl
theorem B_1009_0_0_3 : QB 1009 R1009 cs0 0 0 3 := by
  intro g x2 x6 x7 x8
  kernel_rfl
theorem D_1009_0_0_3 : QD 1009 R1009 0 0 3 := by
  intro g x2 x7 x8
  kernel_rfl
theorem B_1009_0_1_0 : QB 1009 R1009 cs0 0 1 0 := by
  intro g x2 x6 x7 x8
  kernel_rfl
theorem D_1009_0_1_0 : QD 1009 R1009 0 1 0 := by
  intro g x2 x7 x8
  kernel_rfl
theorem B_1009_0_1_1 : QB 1009 R1009 cs0 0 1 1 := by
  intro g x2 x6 x7 x8
  kernel_rfl
theorem D_1009_0_1_1 : QD 1009 R1009 0 1 1 := by
  intro g x2 x7 x8
  kernel_rfl
theorem B_1009_0_1_2 : QB 1009 R1009 cs0 0 1 2 := by
  intro g x2 x6 x7 x8
  kernel_rfl
theorem D_1009_0_1_2 : QD 1009 R1009 0 1 2 := by
  intro g x2 x7 x8
  kernel_rfl
theorem B_1009_0_1_3 : QB 1009 R1009 cs0 0 1 3 := by
  intro g x2 x6 x7 x8
  kernel_rfl
theorem D_1009_0_1_3 : QD 1009 R1009 0 1 3 := by
  intro g x2 x7 x8
  kernel_rfl
theorem B_1009_0_2_0 : QB 1009 R1009 cs0 0 2 0 := by
  intro g x2 x6 x7 x8
  kernel_rfl
theorem D_1009_0_2_0 : QD 1009 R1009 0 2 0 := by
  intro g x2 x7 x8
  kernel_rfl
theorem B_1009_0_2_1 : QB 1009 R1009 cs0 0 2 1 := by
  intro g x2 x6 x7 x8
  kernel_rfl
theorem D_1009_0_2_1 : QD 1009 R1009 0 2 1 := by
  intro g x2 x7 x8
  kernel_rfl
theorem B_1009_0_2_2 : QB 1009 R1009 cs0 0 2 2 := by
  intro g x2 x6 x7 x8
  kernel_rfl
theorem D_1009_0_2_2 : QD 1009 R1009 0 2 2 := by
  intro g x2 x7 x8
  kernel_rfl
theorem B_1009_0_2_3 : QB 1009 R1009 cs0 0 2 3 := by
  intro g x2 x6 x7 x8
  kernel_rfl
theorem D_1009_0_2_3 : QD 1009 R1009 0 2 3 := by
  intro g x2 x7 x8
  kernel_rfl
theorem B_1009_0_3_0 : QB 1009 R1009 cs0 0 3 0 := by
  intro g x2 x6 x7 x8
  kernel_rfl
theorem D_1009_0_3_0 : QD 1009 R1009 0 3 0 := by
  intro g x2 x7 x8
  kernel_rfl
theorem B_1009_0_3_1 : QB 1009 R1009 cs0 0 3 1 := by
  intro g x2 x6 x7 x8
  kernel_rfl
theorem D_1009_0_3_1 : QD 1009 R1009 0 3 1 := by
  intro g x2 x7 x8
  kernel_rfl
theorem B_1009_0_3_2 : QB 1009 R1009 cs0 0 3 2 := by
  intro g x2 x6 x7 x8
  kernel_rfl
theorem D_1009_0_3_2 : QD 1009 R1009 0 3 2 := by
  intro g x2 x7 x8
  kernel_rfl
theorem B_1009_0_3_3 : QB 1009 R1009 cs0 0 3 3 := by
  intro g x2 x6 x7 x8
  kernel_rfl
theorem D_1009_0_3_3 : QD 1009 R1009 0 3 3 := by
  intro g x2 x7 x8
  kernel_rfl
theorem B_1009_0_4_0 : QB 1009 R1009 cs0 0 4 0 := by
  intro g x2 x6 x7 x8
  kernel_rfl
theorem D_1009_0_4_0 : QD 1009 R1009 0 4 0 := by
  intro g x2 x7 x8
  kernel_rfl
theorem B_1009_0_4_1 : QB 1009 R1009 cs0 0 4 1 := by
  intro g x2 x6 x7 x8
  kernel_rfl
theorem D_1009_0_4_1 : QD 1009 R1009 0 4 1 := by
  intro g x2 x7 x8
  kernel_rfl
theorem B_1009_0_4_2 : QB 1009 R1009 cs0 0 4 2 := by
  intro g x2 x6 x7 x8
  kernel_rfl
theorem D_1009_0_4_2 : QD 1009 R1009 0 4 2 := by
  intro g x2 x7 x8
  kernel_rfl
theorem B_1009_0_4_3 : QB 1009 R1009 cs0 0 4 3 := by
  intro g x2 x6 x7 x8
  kernel_rfl
theorem D_1009_0_4_3 : QD 1009 R1009 0 4 3 := by
  intro g x2 x7 x8
  kernel_rfl
end Law
set_option Elab.async false
set_option linter.all false
set_option maxRecDepth 1000000
set_option maxHeartbeats 0
namespace Law
open Pyi PySem
theorem B_1009_1_0_0 : QB 1009 R1009 cs0 1 0 0 := by
  intro g x2 x6 x7 x8
  kernel_rfl
theorem D_1009_1_0_0 : QD 1009 R1009 1 0 0 := by
  intro g x2 x7 x8
  kernel_rfl
theorem B_1009_1_0_1 : QB 1009 R1009 cs0 1 0 1 := by
  intro g x2 x6 x7 x8
  kernel_rfl
theorem D_1009_1_0_1 : QD 1009 R1009 1 0 1 := by
  intro g x2 x7 x8
  kernel_rfl
theorem B_1009_1_0_2 : QB 1009 R1009 cs0 1 0 2 := by
  intro g x2 x6 x7 x8
  kernel_rfl
theorem D_1009_1_0_2 : QD 1009 R1009 1 0 2 := by
  intro g x2 x7 x8
  kernel_rfl
theorem B_1009_1_0_3 : QB 1009 R1009 cs0 1 0 3 := by
  intro g x2 x6 x7 x8
  kernel_rfl
theorem D_1009_1_0_3 : QD 1009 R1009 1 0 3 := by
  intro g x2 x7 x8
  kernel_rfl
theorem B_1009_1_1_0 : QB 1009 R1009 cs0 1 1 0 := by
  intro g x2 x6 x7 x8
  kernel_rfl
theorem D_1009_1_1_0 : QD 1009 R1009 1 1 0 := by
  intro g x2 x7 x8
  kernel_rfl
theorem B_1009_1_1_1 : QB 1009 R1009 cs0 1 1 1 := by
  intro g x2 x6 x7 x8
  kernel_rfl
theorem D_1009_1_1_1 : QD 1009 R1009 1 1 1 := by
  intro g x2 x7 x8
  kernel_rfl
theorem B_1009_1_1_2 : QB 1009 R1009 cs0 1 1 2 := by
  intro g x2 x6 x7 x8
  kernel_rfl
theorem D_1009_1_1_2 : QD 1009 R1009 1 1 2 := by
  intro g x2 x7 x8
  kernel_rfl
theorem B_1009_1_1_3 : QB 1009 R1009 cs0 1 1 3 := by
  intro g x2 x6 x7 x8
  kernel_rfl
theorem D_1009_1_1_3 : QD 1009 R1009 1 1 3 := by
  intro g x2 x7 x8
  kernel_rfl
theorem B_1009_1_2_0 : QB 1009 R1009 cs0 1 2 0 := by
  intro g x2 x6 x7 x8
  kernel_rfl
theorem D_1009_1_2_0 : QD 1009 R1009 1 2 0 := by
  intro g x2 x7 x8
  kernel_rfl
theorem B_1009_1_2_1 : QB 1009 R1009 cs0 1 2 1 := by
  intro g x2 x6 x7 x8
  kernel_rfl
theorem D_1009_1_2_1 : QD 1009 R1009 1 2 1 := by
  intro g x2 x7 x8
  kernel_rfl
theorem B_1009_1_2_2 : QB 1009 R1009 cs0 1 2 2 := by
  intro g x2 x6 x7 x8
  kernel_rfl
theorem D_1009_1_2_2 : QD 1009 R1009 1 2 2 := by
  intro g x2 x7 x8
  kernel_rfl
theorem B_1009_1_2_3 : QB 1009 R1009 cs0 1 2 3 := by
  intro g x2 x6 x7 x8
  kernel_rfl
theorem D_1009_1_2_3 : QD 1009 R1009 1 2 3 := by
  intro g x2 x7 x8
  kernel_rfl
theorem B_1009_1_3_0 : QB 1009 R1009 cs0 1 3 0 := by
  intro g x2 x6 x7 x8
  kernel_rfl
theorem D_1009_1_3_0 : QD 1009 R1009 1 3 0 := by
  intro g x2 x7 x8
  kernel_rfl
theorem B_1009_1_3_1 : QB 1009 R1009 cs0 1 3 1 := by
  intro g x2 x6 x7 x8
  kernel_rfl
theorem D_1009_1_3_1 : QD 1009 R1009 1 3 1 := by
  intro g x2 x7 x8
  kernel_rfl
theorem B_1009_1_3_2 : QB 1009 R1009 cs0 1 3 2 := by
  intro g x2 x6 x7 x8
  kernel_rfl
theorem D_1009_1_3_2 : QD 1009 R1009 1 3 2 := by
  intro g x2 x7 x8
  kernel_rfl
theorem B_1009_1_3_3 : QB 1009 R1009 cs0 1 3 3 := by
  intro g x2 x6 x7 x8
  kernel_rfl
theorem D_1009_1_3_3 : QD 1009 R1009 1 3 3 := by
  intro g x2 x7 x8
  kernel_rfl
theorem B_1009_1_4_0 : QB 1009 R1009 cs0 1 4 0 := by
  intro g x2 x6 x7 x8
  kernel_rfl
theorem D_1009_1_4_0 : QD 1009 R1009 1 4 0 := by
  intro g x2 x7 x8
  kernel_rfl
theorem B_1009_1_4_1 : QB 1009 R1009 cs0 1 4 1 := by
  intro g x2 x6 x7 x8
  kernel_rfl
theorem D_1009_1_4_1 : QD 1009 R1009 1 4 1 := by
  intro g x2 x7 x8
  kernel_rfl
theorem B_1009_1_4_2 : QB 1009 R1009 cs0 1 4 2 := by
  intro g x2 x6 x7 x8
  kernel_rfl
theorem D_1009_1_4_2 : QD 1009 R1009 1 4 2 := by
  intro g x2 x7 x8
  kernel_rfl
theorem B_1009_1_4_3 : QB 1009 R1009 cs0 1 4 3 := by
  intro g x2 x6 x7 x8
  kernel_rfl
theorem D_1009_1_4_3 : QD 1009 R1009 1 4 3 := by
  intro g x2 x7 x8
  kernel_rfl
end Law
set_option Elab.async false
set_option linter.all false
set_option maxRecDepth 1000000
set_option maxHeartbeats 0
namespace Law
open Pyi PySem
theorem B_1009_2_0_0 : QB 1009 R1009 cs0 2 0 0 := by
  intro g x2 x6 x7 x8
  kernel_rfl
theorem D_1009_2_0_0 : QD 1009 R1009 2 0 0 := by
  intro g x2 x7 x8
  kernel_rfl
theorem B_1009_2_0_1 : QB 1009 R1009 cs0 2 0 1 := by
  intro g x2 x6 x7 x8
  kernel_rfl
theorem D_1009_2_0_1 : QD 1009 R1009 2 0 1 := by
  intro g x2 x7 x8
  kernel_rfl
theorem B_1009_2_0_2 : QB 1009 R1009 cs0 2 0 2 := by
  intro g x2 x6 x7 x8
  kernel_rfl
theorem D_1009_2_0_2 : QD 1009 R1009 2 0 2 := by
  intro g x2 x7 x8
  kernel_rfl
theorem B_1009_2_0_3 : QB 1009 R1009 cs0 2 0 3 := by
  intro g x2 x6 x7 x8
  kernel_rfl
theorem D_1009_2_0_3 : QD 1009 R1009 2 0 3 := by
  intro g x2 x7 x8
  kernel_rfl
theorem B_1009_2_1_0 : QB 1009 R1009 cs0 2 1 0 := by
  intro g x2 x6 x7 x8
  kernel_rfl
theorem D_1009_2_1_0 : QD 1009 R1009 2 1 0 := by
  intro g x2 x7 x8
  kernel_rfl
theorem B_1009_2_1_1 : QB 1009 R1009 cs0 2 1 1 := by
  intro g x2 x6 x7 x8
  kernel_rfl
theorem D_1009_2_1_1 : QD 1009 R1009 2 1 1 := by
  intro g x2 x7 x8
  kernel_rfl
theorem B_1009_2_1_2 : QB 1009 R1009 cs0 2 1 2 := by
  intro g x2 x6 x7 x8
  kernel_rfl
theorem D_1009_2_1_2 : QD 1009 R1009 2 1 2 := by
  intro g x2 x7 x8
  kernel_rfl
theorem B_1009_2_1_3 : QB 1009 R1009 cs0 2 1 3 := by
  intro g x2 x6 x7 x8
  kernel_rfl
theorem D_1009_2_1_3 : QD 1009 R1009 2 1 3 := by
  intro g x2 x7 x8
  kernel_rfl
theorem B_1009_2_2_0 : QB 1009 R1009 cs0 2 2 0 := by
  intro g x2 x6 x7 x8
  kernel_rfl
theorem D_1009_2_2_0 : QD 1009 R1009 2 2 0 := by
  intro g x2 x7 x8
  kernel_rfl
theorem B_1009_2_2_1 : QB 1009 R1009 cs0 2 2 1 := by
  intro g x2 x6 x7 x8
  kernel_rfl
theorem D_1009_2_2_1 : QD 1009 R1009 2 2 1 := by
  intro g x2 x7 x8
  kernel_rfl
theorem B_1009_2_2_2 : QB 1009 R1009 cs0 2 2 2 := by
  intro g x2 x6 x7 x8
  kernel_rfl
theorem D_1009_2_2_2 : QD 1009 R1009 2 2 2 := by
  intro g x2 x7 x8
  kernel_rfl
theorem B_1009_2_2_3 : QB 1009 R1009 cs0 2 2 3 := by
  intro g x2 x6 x7 x8
  kernel_rfl
theorem D_1009_2_2_3 : QD 1009 R1009 2 2 3 := by
  intro g x2 x7 x8
  kernel_rfl
theorem B_1009_2_3_0 : QB 1009 R1009 cs0 2 3 0 := by
  intro g x2 x6 x7 x8
  kernel_rfl
theorem D_1009_2_3_0 : QD 1009 R1009 2 3 0 := by
  intro g x2 x7 x8
  kernel_rfl
theorem B_1009_2_3_1 : QB 1009 R1009 cs0 2 3 1 := by
  intro g x2 x6 x7 x8
  kernel_rfl
theorem D_1009_2_3_1 : QD 1009 R1009 2 3 1 := by
  intro g x2 x7 x8
  kernel_rfl
theorem B_1009_2_3_2 : QB 1009 R1009 cs0 2 3 2 := by
  intro g x2 x6 x7 x8
  kernel_rfl
theorem D_1009_2_3_2 : QD 1009 R1009 2 3 2 := by
  intro g x2 x7 x8
  kernel_rfl
theorem B_1009_2_3_3 : QB 1009 R1009 cs0 2 3 3 := by
  intro g x2 x6 x7 x8
  kernel_rfl
theorem D_1009_2_3_3 : QD 1009 R1009 2 3 3 := by
  intro g x2 x7 x8
  kernel_rfl
theorem B_1009_2_4_0 : QB 1009 R1009 cs0 2 4 0 := by
  intro g x2 x6 x7 x8
  kernel_rfl
theorem D_1009_2_4_0 : QD 1009 R1009 2 4 0 := by
  intro g x2 x7 x8
  kernel_rfl
theorem B_1009_2_4_1 : QB 1009 R1009 cs0 2 4 1 := by
  intro g x2 x6 x7 x8
  kernel_rfl
theorem D_1009_2_4_1 : QD 1009 R1009 2 4 1 := by
  intro g x2 x7 x8
  kernel_rfl
theorem B_1009_2_4_2 : QB 1009 R1009 cs0 2 4 2 := by
  intro g x2 x6 x7 x8
  kernel_rfl
theorem D_1009_2_4_2 : QD 1009 R1009 2 4 2 := by
  intro g x2 x7 x8
  kernel_rfl
theorem B_1009_2_4_3 : QB 1009 R1009 cs0 2 4 3 := by
  intro g x2 x6 x7 x8
  kernel_rfl
theorem D_1009_2_4_3 : QD 1009 R1009 2 4 3 := by
  intro g x2 x7 x8
  kernel_rfl
end Law
set_option Elab.async false
set_option linter.all false
set_option maxRecDepth 1000000
set_option maxHeartbeats 0
namespace Law
open Pyi PySem
theorem B_1009_3_0_0 : QB 1009 R1009 cs0 3 0 0 := by
  intro g x2 x6 x7 x8
  kernel_rfl
theorem D_1009_3_0_0 : QD 1009 R1009 3 0 0 := by
  intro g x2 x7 x8
  kernel_rfl
theorem B_1009_3_0_1 : QB 1009 R1009 cs0 3 0 1 := by
  intro g x2 x6 x7 x8
  kernel_rfl
theorem D_1009_3_0_1 : QD 1009 R1009 3 0 1 := by
  intro g x2 x7 x8
  kernel_rfl
theorem B_1009_3_0_2 : QB 1009 R1009 cs0 3 0 2 := by
  intro g x2 x6 x7 x8
  kernel_rfl
theorem D_1009_3_0_2 : QD 1009 R1009 3 0 2 := by
  intro g x2 x7 x8
  kernel_rfl
theorem B_1009_3_0_3 : QB 1009 R1009 cs0 3 0 3 := by
  intro g x2 x6 x7 x8
  kernel_rfl
theorem D_1009_3_0_3 : QD 1009 R1009 3 0 3 := by
  intro g x2 x7 x8
  kernel_rfl
theorem B_1009_3_1_0 : QB 1009 R1009 cs0 3 1 0 := by
  intro g x2 x6 x7 x8
  kernel_rfl
theorem D_1009_3_1_0 : QD 1009 R1009 3 1 0 := by
  intro g x2 x7 x8
  kernel_rfl
theorem B_1009_3_1_1 : QB 1009 R1009 cs0 3 1 1 := by
  intro g x2 x6 x7 x8
  kernel_rfl
theorem D_1009_3_1_1 : QD 1009 R1009 3 1 1 := by
  intro g x2 x7 x8
  kernel_rfl
theorem B_1009_3_1_2 : QB 1009 R1009 cs0 3 1 2 := by
  intro g x2 x6 x7 x8
  kernel_rfl
theorem D_1009_3_1_2 : QD 1009 R1009 3 1 2 := by
  intro g x2 x7 x8
  kernel_rfl
theorem B_1009_3_1_3 : QB 1009 R1009 cs0 3 1 3 := by
  intro g x2 x6 x7 x8
  kernel_rfl
theorem D_1009_3_1_3 : QD 1009 R1009 3 1 3 := by
  intro g x2 x7 x8
  kernel_rfl
theorem B_1009_3_2_0 : QB 1009 R1009 cs0 3 2 0 := by
  intro g x2 x6 x7 x8
  kernel_rfl
theorem D_1009_3_2_0 : QD 1009 R1009 3 2 0 := by
  intro g x2 x7 x8
  kernel_rfl
theorem B_1009_3_2_1 : QB 1009 R1009 cs0 3 2 1 := by
  intro g x2 x6 x7 x8
  kernel_rfl
theorem D_1009_3_2_1 : QD 1009 R1009 3 2 1 := by
  intro g x2 x7 x8
  kernel_rfl
theorem B_1009_3_2_2 : QB 1009 R1009 cs0 3 2 2 := by
  intro g x2 x6 x7 x8
  kernel_rfl
theorem D_1009_3_2_2 : QD 1009 R1009 3 2 2 := by
  intro g x2 x7 x8
  kernel_rfl
theorem B_1009_3_2_3 : QB 1009 R1009 cs0 3 2 3 := by
  intro g x2 x6 x7 x8
  kernel_rfl
theorem D_1009_3_2_3 : QD 1009 R1009 3 2 3 := by
  intro g x2 x7 x8
  kernel_rfl
theorem B_1009_3_3_0 : QB 1009 R1009 cs0 3 3 0 := by
  intro g x2 x6 x7 x8
  kernel_rfl
theorem D_1009_3_3_0 : QD 1009 R1009 3 3 0 := by
  intro g x2 x7 x8
  kernel_rfl
theorem B_1009_3_3_1 : QB 1009 R1009 cs0 3 3 1 := by
  intro g x2 x6 x7 x8
  kernel_rfl
theorem D_1009_3_3_1 : QD 1009 R1009 3 3 1 := by
  intro g x2 x7 x8
  kernel_rfl
theorem B_1009_3_3_2 : QB 1009 R1009 cs0 3 3 2 := by
  intro g x2 x6 x7 x8
  kernel_rfl
theorem D_1009_3_3_2 : QD 1009 R1009 3 3 2 := by
  intro g x2 x7 x8
  kernel_rfl
theorem B_1009_3_3_3 : QB 1009 R1009 cs0 3 3 3 := by
  intro g x2 x6 x7 x8
  kernel_rfl
theorem D_1009_3_3_3 : QD 1009 R1009 3 3 3 := by
  intro g x2 x7 x8
  kernel_rfl
theorem B_1009_3_4_0 : QB 1009 R1009 cs0 3 4 0 := by
  intro g x2 x6 x7 x8
  kernel_rfl
theorem D_1009_3_4_0 : QD 1009 R1009 3 4 0 := by
  intro g x2 x7 x8
  kernel_rfl
theorem B_1009_3_4_1 : QB 1009 R1009 cs0 3 4 1 := by
  intro g x2 x6 x7 x8
  kernel_rfl
theorem D_1009_3_4_1 : QD 1009 R1009 3 4 1 := by
  intro g x2 x7 x8
  kernel_rfl
theorem B_1009_3_4_2 : QB 1009 R1009 cs0 3 4 2 := by
  intro g x2 x6 x7 x8
  kernel_rfl
theorem D_1009_3_4_2 : QD 1009 R1009 3 4 2 := by
  intro g x2 x7 x8
  kernel_rfl
theorem B_1009_3_4_3 : QB 1009 R1009 cs0 3 4 3 := by
  intro g x2 x6 x7 x8
  kernel_rfl
theorem D_1009_3_4_3 : QD 1009 R1009 3 4 3 := by
  intro g x2 x7 x8
  kernel_rfl
end Law
set_option Elab.async false
set_option linter.all false
set_option maxRecDepth 1000000
set_option maxHeartbeats 0
namespace Law
open Pyi PySem
theorem B_1009_4_0_0 : QB 1009 R1009 cs0 4 0 0 := by
  intro g x2 x6 x7 x8
  kernel_rfl
theorem D_1009_4_0_0 : QD 1009 R1009 4 0 0 := by
  intro g x2 x7 x8
  kernel_rfl
theorem B_1009_4_0_1 : QB 1009 R1009 cs0 4 0 1 := by
  intro g x2 x6 x7 x8
  kernel_rfl
theorem D_1009_4_0_1 : QD 1009 R1009 4 0 1 := by
  intro g x2 x7 x8
  kernel_rfl
theorem B_1009_4_0_2 : QB 1009 R1009 cs0 4 0 2 := by
  intro g x2 x6 x7 x8
  kernel_rfl
theorem D_1009_4_0_2 : QD 1009 R1009 4 0 2 := by
  intro g x2 x7 x8
  kernel_rfl
theorem B_1009_4_0_3 : QB 1009 R1009 cs0 4 0 3 := by
  intro g x2 x6 x7 x8
  kernel_rfl
theorem D_1009_4_0_3 : QD 1009 R1009 4 0 3 := by
  intro g x2 x7 x8
  kernel_rfl
theorem B_1009_4_1_0 : QB 1009 R1009 cs0 4 1 0 := by
  intro g x2 x6 x7 x8
  kernel_rfl
theorem D_1009_4_1_0 : QD 1009 R1009 4 1 0 := by
  intro g x2 x7 x8
  kernel_rfl
theorem B_1009_4_1_1 : QB 1009 R1009 cs0 4 1 1 := by
  intro g x2 x6 x7 x8
  kernel_rfl
theorem D_1009_4_1_1 : QD 1009 R1009 4 1 1 := by
  intro g x2 x7 x8
  kernel_rfl
theorem B_1009_4_1_2 : QB 1009 R1009 cs0 4 1 2 := by
  intro g x2 x6 x7 x8
  kernel_rfl
theorem D_1009_4_1_2 : QD 1009 R1009 4 1 2 := by
  intro g x2 x7 x8
  kernel_rfl
theorem B_1009_4_1_3 : QB 1009 R1009 cs0 4 1 3 := by
  intro g x2 x6 x7 x8
  kernel_rfl
theorem D_1009_4_1_3 : QD 1009 R1009 4 1 3 := by
  intro g x2 x7 x8
  kernel_rfl
theorem B_1009_4_2_0 : QB 1009 R1009 cs0 4 2 0 := by
  intro g x2 x6 x7 x8
  kernel_rfl
theorem D_1009_4_2_0 : QD 1009 R1009 4 2 0 := by
  intro g x2 x7 x8
  kernel_rfl
theorem B_1009_4_2_1 : QB 1009 R1009 cs0 4 2 1 := by
  intro g x2 x6 x7 x8
  kernel_rfl
theorem D_1009_4_2_1 : QD 1009 R1009 4 2 1 := by
  intro g x2 x7 x8
  kernel_rfl
theorem B_1009_4_2_2 : QB 1009 R1009 cs0 4 2 2 := by
  intro g x2 x6 x7 x8
  kernel_rfl
theorem D_1009_4_2_2 : QD 1009 R1009 4 2 2 := by
  intro g x2 x7 x8
  kernel_rfl
theorem B_1009_4_2_3 : QB 1009 R1009 cs0 4 2 3 := by
  intro g x2 x6 x7 x8
  kernel_rfl
theorem D_1009_4_2_3 : QD 1009 R1009 4 2 3 := by
  intro g x2 x7 x8
  kernel_rfl
theorem B_1009_4_3_0 : QB 1009 R1009 cs0 4 3 0 := by
  intro g x2 x6 x7 x8
  kernel_rfl
theorem D_1009_4_3_0 : QD 1009 R1009 4 3 0 := by
  intro g x2 x7 x8
  kernel_rfl
theorem B_1009_4_3_1 : QB 1009 R1009 cs0 4 3 1 := by
  intro g x2 x6 x7 x8
  kernel_rfl
theorem D_1009_4_3_1 : QD 1009 R1009 4 3 1 := by
  intro g x2 x7 x8
  kernel_rfl
theorem B_1009_4_3_2 : QB 1009 R1009 cs0 4 3 2 := by
  intro g x2 x6 x7 x8
  kernel_rfl
theorem D_1009_4_3_2 : QD 1009 R1009 4 3 2 := by
  intro g x2 x7 x8
  kernel_rfl
theorem B_1009_4_3_3 : QB 1009 R1009 cs0 4 3 3 := by
  intro g x2 x6 x7 x8
  kernel_rfl
theorem D_1009_4_3_3 : QD 1009 R1009 4 3 3 := by
  intro g x2 x7 x8
  kernel_rfl
theorem B_1009_4_4_0 : QB 1009 R1009 cs0 4 4 0 := by
  intro g x2 x6 x7 x8
  kernel_rfl
theorem D_1009_4_4_0 : QD 1009 R1009 4 4 0 := by
  intro g x2 x7 x8
  kernel_rfl
theorem B_1009_4_4_1 : QB 1009 R1009 cs0 4 4 1 := by
  intro g x2 x6 x7 x8
  kernel_rfl
theorem D_1009_4_4_1 : QD 1009 R1009 4 4 1 := by
  intro g x2 x7 x8
  kernel_rfl
theorem B_1009_4_4_2 : QB 1009 R1009 cs0 4 4 2 := by
  intro g x2 x6 x7 x8
  kernel_rfl
theorem D_1009_4_4_2 : QD 1009 R1009 4 4 2 := by
  intro g x2 x7 x8
  kernel_rfl
theorem B_1009_4_4_3 : QB 1009 R1009 cs0 4 4 3 := by
  intro g x2 x6 x7 x8
  kernel_rfl
theorem D_1009_4_4_3 : QD 1009 R1009 4 4 3 := by
  intro g x2 x7 x8
  kernel_rfl
end Law
set_option Elab.async false
set_option linter.all false
set_option maxRecDepth 1000000
set_option maxHeartbeats 0
namespace Law
open Pyi PySem
theorem C_1009 : QC 1009 R1009 cs0 := by
  intro g fs x2 x3 x4 x5 x7 x8
  kernel_rfl
end Law
set_option Elab.async false
set_option linter.all false
set_option maxRecDepth 1000000
set_option maxHeartbeats 0
namespace Law
open Pyi PySem
theorem B_4 : ∀ i, i < 5 → ∀ j, j < 5 → ∀ k, k < 4 → QB 4 R4 cs0 i j k :=
  lt5 (P := fun i => ∀ j, j < 5 → ∀ k, k < 4 → QB 4 R4 cs0 i j k) (lt5 (P := fun j => ∀ k, k < 4 → QB 4 R4 cs0 0 j k) (lt4 (P := fun k => QB 4 R4 cs0 0 0 k) B_4_0_0_0 B_4_0_0_1 B_4_0_0_2 B_4_0_0_3) (lt4 (P := fun k => QB 4 R4 cs0 0 1 k) B_4_0_1_0 B_4_0_1_1 B_4_0_1_2 B_4_0_1_3) (lt4 (P := fun k => QB 4 R4 cs0 0 2 k) B_4_0_2_0 B_4_0_2_1 B_4_0_2_2 B_4_0_2_3) (lt4 (P := fun k => QB 4 R4 cs0 0 3 k) B_4_0_3_0 B_4_0_3_1 B_4_0_3_2 B_4_0_3_3) (lt4 (P := fun k => QB 4 R4 cs0 0 4 k) B_4_0_4_0 B_4_0_4_1 B_4_0_4_2 B_4_0_4_3))
    (lt5 (P := fun j => ∀ k, k < 4 → QB 4 R4 cs0 1 j k) (lt4 (P := fun k => QB 4 R4 cs0 1 0 k) B_4_1_0_0 B_4_1_0_1 B_4_1_0_2 B_4_1_0_3) (lt4 (P := fun k => QB 4 R4 cs0 1 1 k) B_4_1_1_0 B_4_1_1_1 B_4_1_1_2 B_4_1_1_3) (lt4 (P := fun k => QB 4 R4 cs0 1 2 k) B_4_1_2_0 B_4_1_2_1 B_4_1_2_2 B_4_1_2_3) (lt4 (P := fun k => QB 4 R4 cs0 1 3 k) B_4_1_3_0 B_4_1_3_1 B_4_1_3_2 B_4_1_3_3) (lt4 (P := fun k => QB 4 R4 cs0 1 4 k) B_4_1_4_0 B_4_1_4_1 B_4_1_4_2 B_4_1_4_3))
    (lt5 (P := fun j => ∀ k, k < 4 → QB 4 R4 cs0 2 j k) (lt4 (P := fun k => QB 4 R4 cs0 2 0 k) B_4_2_0_0 B_4_2_0_1 B_4_2_0_2 B_4_2_0_3) (lt4 (P := fun k => QB 4 R4 cs0 2 1 k) B_4_2_1_0 B_4_2_1_1 B_4_2_1_2 B_4_2_1_3) (lt4 (P := fun k => QB 4 R4 cs0 2 2 k) B_4_2_2_0 B_4_2_2_1 B_4_2_2_2 B_4_2_2_3) (lt4 (P := fun k => QB 4 R4 cs0 2 3 k) B_4_2_3_0 B_4_2_3_1 B_4_2_3_2 B_4_2_3_3) (lt4 (P := fun k => QB 4 R4 cs0 2 4 k) B_4_2_4_0 B_4_2_4_1 B_4_2_4_2 B_4_2_4_3))
    (lt5 (P := fun j => ∀ k, k < 4 → QB 4 R4 cs0 3 j k) (lt4 (P := fun k => QB 4 R4 cs0 3 0 k) B_4_3_0_0 B_4_3_0_1 B_4_3_0_2 B_4_3_0_3) (lt4 (P := fun k => QB 4 R4 cs0 3 1 k) B_4_3_1_0 B_4_3_1_1 B_4_3_1_2 B_4_3_1_3) (lt4 (P := fun k => QB 4 R4 cs0 3 2 k) B_4_3_2_0 B_4_3_2_1 B_4_3_2_2 B_4_3_2_3) (lt4 (P := fun k => QB 4 R4 cs0 3 3 k) B_4_3_3_0 B_4_3_3_1 B_4_3_3_2 B_4_3_3_3) (lt4 (P := fun k => QB 4 R4 cs0 3 4 k) B_4_3_4_0 B_4_3_4_1 B_4_3_4_2 B_4_3_4_3))
    (lt5 (P := fun j => ∀ k, k < 4 → QB 4 R4 cs0 4 j k) (lt4 (P := fun k => QB 4 R4 cs0 4 0 k) B_4_4_0_0 B_4_4_0_1 B_4_4_0_2 B_4_4_0_3) (lt4 (P := fun k => QB 4 R4 cs0 4 1 k) B_4_4_1_0 B_4_4_1_1 B_4_4_1_2 B_4_4_1_3) (lt4 (P := fun k => QB 4 R4 cs0 4 2 k) B_4_4_2_0 B_4_4_2_1 B_4_4_2_2 B_4_4_2_3) (lt4 (P := fun k => QB 4 R4 cs0 4 3 k) B_4_4_3_0 B_4_4_3_1 B_4_4_3_2 B_4_4_3_3) (lt4 (P := fun k => QB 4 R4 cs0 4 4 k) B_4_4_4_0 B_4_4_4_1 B_4_4_4_2 B_4_4_4_3))
theorem D_4 : ∀ i, i < 5 → ∀ j, j < 5 → ∀ k, k < 4 → QD 4 R4 i j k :=
  lt5 (P := fun i => ∀ j, j < 5 → ∀ k, k < 4 → QD 4 R4 i j k) (lt5 (P := fun j => ∀ k, k < 4 → QD 4 R4 0 j k) (lt4 (P := fun k => QD 4 R4 0 0 k) D_4_0_0_0 D_4_0_0_1 D_4_0_0_2 D_4_0_0_3) (lt4 (P := fun k => QD 4 R4 0 1 k) D_4_0_1_0 D_4_0_1_1 D_4_0_1_2 D_4_0_1_3) (lt4 (P := fun k => QD 4 R4 0 2 k) D_4_0_2_0 D_4_0_2_1 D_4_0_2_2 D_4_0_2_3) (lt4 (P := fun k => QD 4 R4 0 3 k) D_4_0_3_0 D_4_0_3_1 D_4_0_3_2 D_4_0_3_3) (lt4 (P := fun k => QD 4 R4 0 4 k) D_4_0_4_0 D_4_0_4_1 D_4_0_4_2 D_4_0_4_3))
    (lt5 (P := fun j => ∀ k, k < 4 → QD 4 R4 1 j k) (lt4 (P := fun k => QD 4 R4 1 0 k) D_4_1_0_0 D_4_1_0_1 D_4_1_0_2 D_4_1_0_3) (lt4 (P := fun k => QD 4 R4 1 1 k) D_4_1_1_0 D_4_1_1_1 D_4_1_1_2 D_4_1_1_3) (lt4 (P := fun k => QD 4 R4 1 2 k) D_4_1_2_0 D_4_1_2_1 D_4_1_2_2 D_4_1_2_3) (lt4 (P := fun k => QD 4 R4 1 3 k) D_4_1_3_0 D_4_1_3_1 D_4_1_3_2 D_4_1_3_3) (lt4 (P := fun k => QD 4 R4 1 4 k) D_4_1_4_0 D_4_1_4_1 D_4_1_4_2 D_4_1_4_3))
    (lt5 (P := fun j => ∀ k, k < 4 → QD 4 R4 2 j k) (lt4 (P := fun k => QD 4 R4 2 0 k) D_4_2_0_0 D_4_2_0_1 D_4_2_0_2 D_4_2_0_3) (lt4 (P := fun k => QD 4 R4 2 1 k) D_4_2_1_0 D_4_2_1_1 D_4_2_1_2 D_4_2_1_3) (lt4 (P := fun k => QD 4 R4 2 2 k) D_4_2_2_0 D_4_2_2_1 D_4_2_2_2 D_4_2_2_3) (lt4 (P := fun k => QD 4 R4 2 3 k) D_4_2_3_0 D_4_2_3_1 D_4_2_3_2 D_4_2_3_3) (lt4 (P := fun k => QD 4 R4 2 4 k) D_4_2_4_0 D_4_2_4_1 D_4_2_4_2 D_4_2_4_3))
    (lt5 (P := fun j => ∀ k, k < 4 → QD 4 R4 3 j k) (lt4 (P := fun k => QD 4 R4 3 0 k) D_4_3_0_0 D_4_3_0_1 D_4_3_0_2 D_4_3_0_3) (lt4 (P := fun k => QD 4 R4 3 1 k) D_4_3_1_0 D_4_3_1_1 D_4_3_1_2 D_4_3_1_3) (lt4 (P := fun k => QD 4 R4 3 2 k) D_4_3_2_0 D_4_3_2_1 D_4_3_2_2 D_4_3_2_3) (lt4 (P := fun k => QD 4 R4 3 3 k) D_4_3_3_0 D_4_3_3_1 D_4_3_3_2 D_4_3_3_3) (lt4 (P := fun k => QD 4 R4 3 4 k) D_4_3_4_0 D_4_3_4_1 D_4_3_4_2 D_4_3_4_3))
    (lt5 (P := fun j => ∀ k, k < 4 → QD 4 R4 4 j k) (lt4 (P := fun k => QD 4 R4 4 0 k) D_4_4_0_0 D_4_4_0_1 D_4_4_0_2 D_4_4_0_3) (lt4 (P := fun k => QD 4 R4 4 1 k) D_4_4_1_0 D_4_4_1_1 D_4_4_1_2 D_4_4_1_3) (lt4 (P := fun k => QD 4 R4 4 2 k) D_4_4_2_0 D_4_4_2_1 D_4_4_2_2 D_4_4_2_3) (lt4 (P := fun k => QD 4 R4 4 3 k) D_4_4_3_0 D_4_4_3_1 D_4_4_3_2 D_4_4_3_3) (lt4 (P := fun k => QD 4 R4 4 4 k) D_4_4_4_0 D_4_4_4_1 D_4_4_4_2 D_4_4_4_3))
theorem B_1009 : ∀ i, i < 5 → ∀ j, j < 5 → ∀ k, k < 4 → QB 1009 R1009 cs0 i j k :=
  lt5 (P := fun i => ∀ j, j < 5 → ∀ k, k < 4 → QB 1009 R1009 cs0 i j k) (lt5 (P := fun j => ∀ k, k < 4 → QB 1009 R1009 cs0 0 j k) (lt4 (P := fun k => QB 1009 R1009 cs0 0 0 k) B_1009_0_0_0 B_1009_0_0_1 B_1009_0_0_2 B_1009_0_0_3) (lt4 (P := fun k => QB 1009 R1009 cs0 0 1 k) B_1009_0_1_0 B_1009_0_1_1 B_1009_0_1_2 B_1009_0_1_3) (lt4 (P := fun k => QB 1009 R1009 cs0 0 2 k) B_1009_0_2_0 B_1009_0_2_1 B_1009_0_2_2 B_1009_0_2_3) (lt4 (P := fun k => QB 1009 R1009 cs0 0 3 k) B_1009_0_3_0 B_1009_0_3_1 B_1009_0_3_2 B_1009_0_3_3) (lt4 (P := fun k => QB 1009 R1009 cs0 0 4 k) B_1009_0_4_0 B_1009_0_4_1 B_1009_0_4_2 B_1009_0_4_3))
    (lt5 (P := fun j => ∀ k, k < 4 → QB 1009 R1009 cs0 1 j k) (lt4 (P := fun k => QB 1009 R1009 cs0 1 0 k) B_1009_1_0_0 B_1009_1_0_1 B_1009_1_0_2 B_1009_1_0_3) (lt4 (P := fun k => QB 1009 R1009 cs0 1 1 k) B_1009_1_1_0 B_1009_1_1_1 B_1009_1_1_2 B_1009_1_1_3) (lt4 (P := fun k => QB 1009 R1009 cs0 1 2 k) B_1009_1_2_0 B_1009_1_2_1 B_1009_1_2_2 B_1009_1_2_3) (lt4 (P := fun k => QB 1009 R1009 cs0 1 3 k) B_1009_1_3_0 B_1009_1_3_1 B_1009_1_3_2 B_1009_1_3_3) (lt4 (P := fun k => QB 1009 R1009 cs0 1 4 k) B_1009_1_4_0 B_1009_1_4_1 B_1009_1_4_2 B_1009_1_4_3))
    (lt5 (P := fun j => ∀ k, k < 4 → QB 1009 R1009 cs0 2 j k) (lt4 (P := fun k => QB 1009 R1009 cs0 2 0 k) B_1009_2_0_0 B_1009_2_0_1 B_1009_2_0_2 B_1009_2_0_3) (lt4 (P := fun k => QB 1009 R1009 cs0 2 1 k) B_1009_2_1_0 B_1009_2_1_1 B_1009_2_1_2 B_1009_2_1_3) (lt4 (P := fun k => QB 1009 R1009 cs0 2 2 k) B_1009_2_2_0 B_1009_2_2_1 B_1009_2_2_2 B_1009_2_2_3) (lt4 (P := fun k => QB 1009 R1009 cs0 2 3 k) B_1009_2_3_0 B_1009_2_3_1 B_1009_2_3_2 B_1009_2_3_3) (lt4 (P := fun k => QB 1009 R1009 cs0 2 4 k) B_1009_2_4_0 B_1009_2_4_1 B_1009_2_4_2 B_1009_2_4_3))
    (lt5 (P := fun j => ∀ k, k < 4 → QB 1009 R1009 cs0 3 j k) (lt4 (P := fun k => QB 1009 R1009 cs0 3 0 k) B_1009_3_0_0 B_1009_3_0_1 B_1009_3_0_2 B_1009_3_0_3) (lt4 (P := fun k => QB 1009 R1009 cs0 3 1 k) B_1009_3_1_0 B_1009_3_1_1 B_1009_3_1_2 B_1009_3_1_3) (lt4 (P := fun k => QB 1009 R1009 cs0 3 2 k) B_1009_3_2_0 B_1009_3_2_1 B_1009_3_2_2 B_1009_3_2_3) (lt4 (P := fun k => QB 1009 R1009 cs0 3 3 k) B_1009_3_3_0 B_1009_3_3_1 B_1009_3_3_2 B_1009_3_3_3) (lt4 (P := fun k => QB 1009 R1009 cs0 3 4 k) B_1009_3_4_0 B_1009_3_4_1 B_1009_3_4_2 B_1009_3_4_3))
    (lt5 (P := fun j => ∀ k, k < 4 → QB 1009 R1009 cs0 4 j k) (lt4 (P := fun k => QB 1009 R1009 cs0 4 0 k) B_1009_4_0_0 B_1009_4_0_1 B_1009_4_0_2 B_1009_4_0_3) (lt4 (P := fun k => QB 1009 R1009 cs0 4 1 k) B_1009_4_1_0 B_1009_4_1_1 B_1009_4_1_2 B_1009_4_1_3) (lt4 (P := fun k => QB 1009 R1009 cs0 4 2 k) B_1009_4_2_0 B_1009_4_2_1 B_1009_4_2_2 B_1009_4_2_3) (lt4 (P := fun k => QB 1009 R1009 cs0 4 3 k) B_1009_4_3_0 B_1009_4_3_1 B_1009_4_3_2 B_1009_4_3_3) (lt4 (P := fun k => QB 1009 R1009 cs0 4 4 k) B_1009_4_4_0 B_1009_4_4_1 B_1009_4_4_2 B_1009_4_4_3))
theorem D_1009 : ∀ i, i < 5 → ∀ j, j < 5 → ∀ k, k < 4 → QD 1009 R1009 i j k :=
  lt5 (P := fun i => ∀ j, j < 5 → ∀ k, k < 4 → QD 1009 R1009 i j k) (lt5 (P := fun j => ∀ k, k < 4 → QD 1009 R1009 0 j k) (lt4 (P := fun k => QD 1009 R1009 0 0 k) D_1009_0_0_0 D_1009_0_0_1 D_1009_0_0_2 D_1009_0_0_3) (lt4 (P := fun k => QD 1009 R1009 0 1 k) D_1009_0_1_0 D_1009_0_1_1 D_1009_0_1_2 D_1009_0_1_3) (lt4 (P := fun k => QD 1009 R1009 0 2 k) D_1009_0_2_0 D_1009_0_2_1 D_1009_0_2_2 D_1009_0_2_3) (lt4 (P := fun k => QD 1009 R1009 0 3 k) D_1009_0_3_0 D_1009_0_3_1 D_1009_0_3_2 D_1009_0_3_3) (lt4 (P := fun k => QD 1009 R1009 0 4 k) D_1009_0_4_0 D_1009_0_4_1 D_1009_0_4_2 D_1009_0_4_3))
    (lt5 (P := fun j => ∀ k, k < 4 → QD 1009 R1009 1 j k) (lt4 (P := fun k => QD 1009 R1009 1 0 k) D_1009_1_0_0 D_1009_1_0_1 D_1009_1_0_2 D_1009_1_0_3) (lt4 (P := fun k => QD 1009 R1009 1 1 k) D_1009_1_1_0 D_1009_1_1_1 D_1009_1_1_2 D_1009_1_1_3) (lt4 (P := fun k => QD 1009 R1009 1 2 k) D_1009_1_2_0 D_1009_1_2_1 D_1009_1_2_2 D_1009_1_2_3) (lt4 (P := fun k => QD 1009 R1009 1 3 k) D_1009_1_3_0 D_1009_1_3_1 D_1009_1_3_2 D_1009_1_3_3) (lt4 (P := fun k => QD 1009 R1009 1 4 k) D_1009_1_4_0 D_1009_1_4_1 D_1009_1_4_2 D_1009_1_4_3))
    (lt5 (P := fun j => ∀ k, k < 4 → QD 1009 R1009 2 j k) (lt4 (P := fun k => QD 1009 R1009 2 0 k) D_1009_2_0_0 D_1009_2_0_1 D_1009_2_0_2 D_1009_2_0_3) (lt4 (P := fun k => QD 1009 R1009 2 1 k) D_1009_2_1_0 D_1009_2_1_1 D_1009_2_1_2 D_1009_2_1_3) (lt4 (P := fun k => QD 1009 R1009 2 2 k) D_1009_2_2_0 D_1009_2_2_1 D_1009_2_2_2 D_1009_2_2_3) (lt4 (P := fun k => QD 1009 R1009 2 3 k) D_1009_2_3_0 D_1009_2_3_1 D_1009_2_3_2 D_1009_2_3_3) (lt4 (P := fun k => QD 1009 R1009 2 4 k) D_1009_2_4_0 D_1009_2_4_1 D_1009_2_4_2 D_1009_2_4_3))
    (lt5 (P := fun j => ∀ k, k < 4 → QD 1009 R1009 3 j k) (lt4 (P := fun k => QD 1009 R1009 3 0 k) D_1009_3_0_0 D_1009_3_0_1 D_1009_3_0_2 D_1009_3_0_3) (lt4 (P := fun k => QD 1009 R1009 3 1 k) D_1009_3_1_0 D_1009_3_1_1 D_1009_3_1_2 D_1009_3_1_3) (lt4 (P := fun k => QD 1009 R1009 3 2 k) D_1009_3_2_0 D_1009_3_2_1 D_1009_3_2_2 D_1009_3_2_3) (lt4 (P := fun k => QD 1009 R1009 3 3 k) D_1009_3_3_0 D_1009_3_3_1 D_1009_3_3_2 D_1009_3_3_3) (lt4 (P := fun k => QD 1009 R1009 3 4 k) D_1009_3_4_0 D_1009_3_4_1 D_1009_3_4_2 D_1009_3_4_3))
    (lt5 (P := fun j => ∀ k, k < 4 → QD 1009 R1009 4 j k) (lt4 (P := fun k => QD 1009 R1009 4 0 k) D_1009_4_0_0 D_1009_4_0_1 D_1009_4_0_2 D_1009_4_0_3) (lt4 (P := fun k => QD 1009 R1009 4 1 k) D_1009_4_1_0 D_1009_4_1_1 D_1009_4_1_2 D_1009_4_1_3) (lt4 (P := fun k => QD 1009 R1009 4 2 k) D_1009_4_2_0 D_1009_4_2_1 D_1009_4_2_2 D_1009_4_2_3) (lt4 (P := fun k => QD 1009 R1009 4 3 k) D_1009_4_3_0 D_1009_4_3_1 D_1009_4_3_2 D_1009_4_3_3) (lt4 (P := fun k => QD 1009 R1009 4 4 k) D_1009_4_4_0 D_1009_4_4_1 D_1009_4_4_2 D_1009_4_4_3))
end Law
set_option Elab.async false
set_option linter.all false
set_option maxRecDepth 1000000
set_option maxHeartbeats 0
namespace Law
open Pyi PySem
theorem pen0 (ns : List Int) : ∃ h, callFn Tl 3 0 [.ref 0] (heap0 ns) = .ok (.ref 3) h ∧ h.n = 4 ∧ Pen h.f 0 := by
  have e0 : (heap0 ns).f 0 = some (.frz (ns.map D.int)) := rfl
  generalize e : ((ns.map D.int).drop (HT.sIx (ns.map D.int).length 0 none)).take (HT.sIx (ns.map D.int).length (ns.map D.int).length (some 60) - HT.sIx (ns.map D.int).length 0 none) = ds
  obtain ⟨L, hL⟩ : ∃ L : List Int, ds = L.map D.int := by
    refine ⟨(ns.drop (HT.sIx (ns.map D.int).length 0 none)).take (HT.sIx (ns.map D.int).length (ns.map D.int).length (some 60) - HT.sIx (ns.map D.int).length 0 none), ?_⟩
    rw [List.map_take, List.map_drop]
    exact e.symm
  subst hL
  refine ⟨(((heap0 ns).new (.lst (L.map D.int))).new (.lst (L.map D.int))).new (.lst [.ref 2, .int 0, .int 0]), ?_, rfl, ⟨0, 0, L, by rw [Hh.f_new]; exact if_pos rfl, by decide, by decide, by rw [Hh.f_new]; refine (if_neg (show ¬ (2 : Nat) = 3 by decide)).trans ?_; rw [Hh.f_new]; exact if_pos rfl⟩⟩
  show runFn Tl (callFn Tl 2) fn0 [.ref 0] (heap0 ns) = _
  rw [runFn_eq rfl]
  have f1 : ((heap0 ns).new (.lst (L.map D.int))).f 1 = some (.lst (L.map D.int)) := by rw [Hh.f_new]; exact if_pos rfl
  have n0 : (heap0 ns).n = 1 := rfl
  have n1 : ((heap0 ns).new (.lst (L.map D.int))).n = 2 := rfl
  have n2 : (((heap0 ns).new (.lst (L.map D.int))).new (.lst (L.map D.int))).n = 3 := rfl
  have z3 : (3 : Nat) ≤ sizeLine := by decide
  simp only [fn0, Pyi.start, Pyi.execs, Pyi.exec, evalE, evalEs, look, prim, primN, prim1, prim2, prim3, pSlice, optI, seqOf, e0, Option.bind, O.items, R.bind, R.of, SR.of, seqK, pList, List.map, List.length, List.append, List.getElem?_cons_zero, List.cons_append, e, n0, n1, n2, f1, Option.map, z3, if_true, Nat.zero_add, Nat.reduceAdd]
theorem for_succ {step : D → Pyi.St → Hh → SR} {it : It} {m i : Nat} {σ : Pyi.St} {h : Hh} {d : D} (e : it.at i h = some (some d)) : forLoop step it (m + 1) i σ h = (match step d σ h with
      | .next σ1 h1 => forLoop step it m (i + 1) σ1 h1
      | .cnt σ1 h1 => forLoop step it m (i + 1) σ1 h1
      | .brk σ1 h1 => .next σ1 h1
      | .ret d h1 => .ret d h1
      | .exc c fs σ1 h1 => .exc c fs σ1 h1
      | .bad => .bad) := by
  conv => lhs; unfold forLoop
  rw [e] <;> rfl
theorem for_end {step : D → Pyi.St → Hh → SR} {it : It} {m i : Nat} {σ : Pyi.St} {h : Hh} (e : it.at i h = some none) : forLoop step it (m + 1) i σ h = .next σ h := by
  conv => lhs; unfold forLoop
  rw [e] <;> rfl
theorem exec_asg {T : Tab} {cl : Nat → List D → Hh → R D} {k : Nat} {e : E} {σ : Pyi.St} {h h1 : Hh} {d : D} (x : evalE T cl e σ h = .ok d h1) : Pyi.exec T cl (.asg (.name k) e) σ h = .next (σ.set k (some d)) h1 := by
  show SR.of (evalE T cl e σ h) σ (fun d h1 => SR.of (R.of (store T cl (.name k) d σ h1)) σ fun σ1 h2 => .next σ1 h2) = _
  rw [x]
  rfl
theorem exec_for {T : Tab} {cl : Nat → List D → Hh → R D} {k : Nat} {b : Ss} {σ : Pyi.St} {h : Hh} : Pyi.exec T cl (.for_ (.name k) (.rng1 (.con (.int 2))) b) σ h = forLoop (fun d σ1 h2 => Pyi.execs T cl b (σ1.set k (some d)) h2) (.rng 0 2) (1048573 + 1 + 1 + 1) 0 σ h := rfl
theorem runFn_ret {T : Tab} {cl : Nat → List D → Hh → R D} {q : Fn} {ds : List D} {h h1 : Hh} {d : D} (e : ds.length = q.np) (x : Pyi.execs T cl q.body (Pyi.start q.ns ds) h = .ret d h1) : runFn T cl q ds h = .ok d h1 := by
  rw [runFn_eq e, x]
theorem cs_ok : ∀ c ∈ cs0, c ≠ 999 := by decide
theorem law_ok (ns : List Int) : ∃ h', callFn Tl 4 8 [.ref 0] (heap0 ns) = .ok (.bl true) h' := by
  obtain ⟨h0, e0, n0, p0⟩ := pen0 ns
  obtain ⟨a3, a4, a5, a6, a7, a8, h1, e1, n1, p1⟩ := lap_ok (n := 4) (by decide) cs_ok B_4 C_4 D_4 n0 p0 (by decide) (some (.int 0)) none none none none none none
  obtain ⟨b3, b4, b5, b6, b7, b8, h2, e2, n2, p2⟩ := lap_ok (n := 1009) (by decide) cs_ok B_1009 C_1009 D_1009 n1 p1 (by decide) (some (.int 1)) a3 a4 a5 a6 a7 a8
  refine ⟨h2, ?_⟩
  show runFn Tl (callFn Tl 3) fn8 [.ref 0] (heap0 ns) = _
  rw [fn8_eq]
  refine runFn_ret rfl ?_
  have c0 : evalE Tl (callFn Tl 3) (.call 0 (.cons (.var 0) .nil)) (Pyi.start 9 [.ref 0]) (heap0 ns) = .ok (.ref 3) h0 := e0
  have l : Pyi.exec Tl (callFn Tl 3) (.for_ (.name 2) (.rng1 (.con (.int 2))) lap) [some (.ref 0), some (.ref 3), none, none, none, none, none, none, none] h0 = .next [some (.ref 0), some (.ref 3), some (.int 1), b3, b4, b5, b6, b7, b8] h2 := by
    have x0 : Pyi.execs Tl (callFn Tl 3) lap (List.set [some (.ref 0), some (.ref 3), none, none, none, none, none, none, none] 2 (some (.int (0 + (0 : Nat))))) h0 = _ := e1
    have x1 : Pyi.execs Tl (callFn Tl 3) lap (List.set [some (.ref 0), some (.ref 3), some (.int 0), a3, a4, a5, a6, a7, a8] 2 (some (.int (0 + (0 + 1 : Nat))))) h1 = _ := e2
    rw [exec_for, for_succ (d := .int (0 + (0 : Nat))) rfl, x0]
    show forLoop _ _ _ _ _ h1 = _
    rw [for_succ (d := .int (0 + (0 + 1 : Nat))) rfl, x1]
    show forLoop _ _ _ _ _ h2 = _
    rw [for_end rfl]
  show Pyi.execs Tl (callFn Tl 3) (.cons (.asg (.name 1) (.call 0 (.cons (.var 0) .nil))) (.cons (.for_ (.name 2) (.rng1 (.con (.int 2))) lap) (.cons (.ret (.con (.bl true))) .nil))) (Pyi.start 9 [.ref 0]) (heap0 ns) = _
  have s0 : (Pyi.start 9 [.ref 0]).set 1 (some (.ref 3)) = [some (.ref 0), some (.ref 3), none, none, none, none, none, none, none] := rfl
  rw [execs_cons, exec_asg c0, seqK_next, s0, execs_cons, l, seqK_next, execs_cons]
  rfl
end Law
set_option Elab.async false
set_option linter.all false
set_option maxRecDepth 1000000
set_option maxHeartbeats 0
namespace Law
open PySem PySem.W PySem.Calls PyProof.Rows Pyi
abbrev L : OpenLaw := PySem.Challenge.rw_worthhouse_k11_errors
abbrev R : OpenRow := OpenLaw.row PySem.Challenge.rw_worthhouse_k11_errors
abbrev qv : Program := view R.prog [45]
def names : List PySem.Str := (["WorthhouseError", "NameMissing", "BadScale", "BadImages", "BadTable", "BadTree", "BadBlocks", "BadPaper", "BadTurn", "BadDeed", "MixedScales", "MixedFrames", "NotSteady", "TooMany", "NothingDone", "NotLinked", "NotKept", "BadFrame", "BadName", "BadThing"] : List PySem.Str) ++ (["BadRule", "BadRow", "NoLine", "NoState", "BadText", "BadQuestion", "TwiceTold", "Clash", "UnknownWorth", "UnknownName", "UnknownThing", "UnknownFact", "UnknownLabel", "NotTold", "NoRow", "_law_pen", "_law_next", "_law_draw", "_law_kinds", "_law_bases"] : List PySem.Str) ++ (["_law_plain", "_law_named", "_law_kept"] : List PySem.Str)
def M : Mo := ⟨([("_law_pen", 37), ("_law_next", 38), ("_law_draw", 39), ("_law_kinds", 40), ("_law_bases", 41), ("_law_plain", 42), ("_law_named", 43), ("_law_kept", 44), ("law", 45)] : List (PySem.Str × Nat)),
  ([⟨"WorthhouseError", 1, 0, true, false⟩, ⟨"NameMissing", 2, 0, false, false⟩, ⟨"BadScale", 3, 0, true, true⟩, ⟨"BadImages", 4, 0, true, true⟩, ⟨"BadTable", 5, 0, true, true⟩, ⟨"BadTree", 6, 0, true, true⟩, ⟨"BadBlocks", 7, 0, true, true⟩, ⟨"BadPaper", 8, 0, true, true⟩, ⟨"BadTurn", 9, 0, true, true⟩, ⟨"BadDeed", 10, 0, true, true⟩, ⟨"MixedScales", 11, 0, true, true⟩, ⟨"MixedFrames", 12, 0, true, true⟩] : List ClI) ++ ([⟨"NotSteady", 13, 0, true, true⟩, ⟨"TooMany", 14, 0, true, true⟩, ⟨"NothingDone", 15, 0, true, true⟩, ⟨"NotLinked", 16, 0, true, true⟩, ⟨"NotKept", 17, 0, true, true⟩, ⟨"BadFrame", 18, 0, true, true⟩, ⟨"BadName", 19, 0, true, true⟩, ⟨"BadThing", 20, 0, true, true⟩, ⟨"BadRule", 21, 0, true, true⟩, ⟨"BadRow", 22, 0, true, true⟩, ⟨"NoLine", 23, 0, true, true⟩, ⟨"NoState", 24, 0, true, true⟩] : List ClI) ++ ([⟨"BadText", 25, 0, true, true⟩, ⟨"BadQuestion", 26, 0, true, true⟩, ⟨"TwiceTold", 27, 0, true, true⟩, ⟨"Clash", 28, 0, true, true⟩, ⟨"UnknownWorth", 29, 1, false, true⟩, ⟨"UnknownName", 30, 1, false, true⟩, ⟨"UnknownThing", 31, 1, false, true⟩, ⟨"UnknownFact", 32, 1, false, true⟩, ⟨"UnknownLabel", 33, 1, false, true⟩, ⟨"NotTold", 34, 1, false, true⟩, ⟨"NoRow", 35, 1, false, true⟩] : List ClI),
  (["part", "members", "name", "number", "place", "word", "filled", "spots", "fact"] : List PySem.Str),
  ([(45, ["_law_j"])] : List (Nat × List PySem.Str))⟩
abbrev hk : Hook := hookP R.prog M
def ob (s : SharedT) : Bool × List FnT × List FnT := obsP R.prog M (kP M (HandSHeadRun.getT s))
theorem ob_eq (s : SharedT) : ob s = hk.obs s.abs := by
  have e : HandSHeadRun.getT s = s.abs.heap.get? := funext (HandSHeadRun.getT_eq s)
  unfold ob
  rw [e] <;> rfl
theorem static : stC R.prog M = true := by decide +kernel
theorem run (w : World) : HandSHeadRun.RunEq R qv hk ob 20000 names w := by
  intro os
  kernel_rfl
end Law
set_option Elab.async false
set_option linter.all false
set_option maxRecDepth 1000000
set_option maxHeartbeats 0
open PySem PySem.W PySem.Calls PyProof.Rows
theorem Law.tab_eq : Pyi.tabOf Law.R.prog Law.M = Law.Tl := by kernel_rfl
theorem PySem.Challenge.cw_worthhouse_k11_errors_holds : PySem.Challenge.rw_worthhouse_k11_errors.Holds := by
  w_on; o_law
  refine HandSHeadRun.head_any (r := Law.R) (q := Law.qv) (H := Law.hk) (ob := Law.ob) (M := 20000) (loose := Law.names) (d := HandSHeadRun.topDef Law.R.prog 45) (kwd := []) Law.ob_eq
    (by kernel_rfl) (fun s => by kernel_rfl) Law.run (by kernel_rfl) (by kernel_rfl) (by kernel_rfl) (by rfl) (by first | assumption | decide +kernel) (by decide +kernel) ⟨rfl, rfl, rfl, rfl, rfl, by decide +kernel⟩ ?hw ?hc
  case hw => w_witness2
  case hc =>
    refine Pyi.walk_G (l := PySem.Challenge.rw_worthhouse_k11_errors) (n := 63) (N := 4) (f := 8) (st := 45) (M := Law.M) rfl (by decide) (by kernel_rfl) ⟨rfl, by decide, by decide⟩ rfl Law.static (by kernel_rfl) (by kernel_rfl) fun ns _ => ?_
    have e := Law.tab_eq
    obtain ⟨h', x⟩ := Law.law_ok ns
    exact ⟨h', by rw [show Pyi.tabOf (PySem.Challenge.rw_worthhouse_k11_errors).prog Law.M = Law.Tl from e]; exact x⟩
