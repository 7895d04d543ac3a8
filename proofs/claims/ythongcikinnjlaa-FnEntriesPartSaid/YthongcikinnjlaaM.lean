/-
  Plain definitions and laws.
-/
import Derived.Test.YthongcikinnjlaaAx2
set_option linter.unusedVariables false
set_option linter.unusedSimpArgs false
set_option linter.unusedSectionVars false

/-
  M0: plain definitions and small laws on lists of integers.
-/
namespace Go.Mx

theorem drop_lt {α : Type} {l : List α} {i : Int} (d : α) (h0 : 0 ≤ i) (h : i < (l.length : Int)) : l.drop i.toNat = l.getD i.toNat d :: l.drop (i + 1).toNat := by
  have h1 : i.toNat < l.length := by omega
  rw [List.drop_eq_getElem_cons h1]
  have h2 : (i + 1).toNat = i.toNat + 1 := by omega
  rw [h2]
  simp [List.getD_eq_getElem?_getD, h1]

theorem drop_ge {α : Type} {l : List α} {i : Int} (h : ¬ i < (l.length : Int)) : l.drop i.toNat = [] :=
  List.drop_eq_nil_of_le (by omega)

theorem take_lt {α : Type} {l : List α} {i : Int} (d : α) (h0 : 0 ≤ i) (h : i < (l.length : Int)) : l.take (i + 1).toNat = l.take i.toNat ++ [l.getD i.toNat d] := by
  have h1 : i.toNat < l.length := by omega
  have h2 : (i + 1).toNat = i.toNat + 1 := by omega
  rw [h2, List.take_succ_eq_append_getElem h1]
  simp [List.getD_eq_getElem?_getD, h1]

theorem take_ge {α : Type} {l : List α} {i : Int} (h : ¬ i < (l.length : Int)) : l.take i.toNat = l :=
  List.take_of_length_le (by omega)

theorem len_take {α : Type} {l : List α} {i : Int} (h0 : 0 ≤ i) (h : i ≤ (l.length : Int)) : (((l.take i.toNat).length : Nat) : Int) = i := by
  rw [List.length_take]; omega

/-- All numbers lie between two bounds. -/
def allIn (lo hi : Int) : List Int → Bool
  | [] => true
  | n :: l => decide (lo ≤ n ∧ n ≤ hi) && allIn lo hi l

theorem allIn_iff {lo hi : Int} {l : List Int} : allIn lo hi l = true ↔ ∀ n ∈ l, lo ≤ n ∧ n ≤ hi := by
  induction l with
  | nil => simp [allIn]
  | cons x l ih => simp [allIn, ih]

/-- A valid list. -/
def LV (l : List Int) : Bool := decide (l.length ≤ 40) && allIn 0 7 l

theorem LV_len {l : List Int} (h : LV l = true) : l.length ≤ 40 := by
  simp [LV] at h; exact h.1

theorem LV_in {l : List Int} (h : LV l = true) : ∀ n ∈ l, 0 ≤ n ∧ n ≤ 7 := by
  simp [LV] at h; exact allIn_iff.1 h.2

theorem LV_iff {l : List Int} : LV l = true ↔ l.length ≤ 40 ∧ ∀ n ∈ l, 0 ≤ n ∧ n ≤ 7 := by
  simp [LV, allIn_iff]

theorem set_at {α : Type} {A B : List α} {b v : α} {i : Int} (h : (A.length : Int) = i) : (A ++ b :: B).set i.toNat v = A ++ v :: B := by
  have : i.toNat = A.length := by omega
  rw [this]
  simp

theorem getD_at {α : Type} {A B : List α} {b d : α} {i : Int} (h : (A.length : Int) = i) : (A ++ b :: B).getD i.toNat d = b := by
  have : i.toNat = A.length := by omega
  rw [this]
  simp [List.getD_eq_getElem?_getD]

/-- Numbers in a row. -/
def marks (k : Int) : Nat → List Int
  | 0 => []
  | n + 1 => k :: marks (k + 1) n

theorem marks_len {k : Int} {n : Nat} : (marks k n).length = n := by
  induction n generalizing k with
  | zero => rfl
  | succ n ih => simp [marks, ih]

theorem marks_snoc {k : Int} {n : Nat} : marks k (n + 1) = marks k n ++ [k + n] := by
  induction n generalizing k with
  | zero => simp [marks]
  | succ n ih =>
    rw [marks, ih, marks, List.cons_append]
    congr 3
    omega

end Go.Mx

/-
  M1: plain definitions for drawing, deltas and tokens.
-/
namespace Go.Mx

/-- A record of three numbers. -/
abbrev P3 := Int × Int × Int

/-- How long two lists are equal. -/
def cp : List Int → List Int → Int
  | a :: as, b :: bs => if a = b then 1 + cp as bs else 0
  | _, _ => 0

theorem cp_nonneg (a b : List Int) : 0 ≤ cp a b := by
  induction a generalizing b with
  | nil => simp [cp]
  | cons x a ih =>
    cases b with
    | nil => simp [cp]
    | cons y b =>
      simp only [cp]
      split
      · have := ih b; omega
      · omega

theorem cp_le_left (a b : List Int) : cp a b ≤ (a.length : Int) := by
  induction a generalizing b with
  | nil => simp [cp]
  | cons x a ih =>
    cases b with
    | nil => simp [cp]; omega
    | cons y b =>
      simp only [cp, List.length_cons]
      split
      · have := ih b; omega
      · omega

theorem cp_le_right (a b : List Int) : cp a b ≤ (b.length : Int) := by
  induction a generalizing b with
  | nil => simp [cp]
  | cons x a ih =>
    cases b with
    | nil => simp [cp]
    | cons y b =>
      simp only [cp, List.length_cons]
      split
      · have := ih b; omega
      · omega

/-- The longest copy out of the rest of an old list. -/
def bestFrom (t : List Int) : List Int → Int → P3 → P3
  | [], _, b => b
  | o :: os, f, b => bestFrom t os (f + 1) (if 2 ≤ cp (o :: os) t ∧ b.2.2 < cp (o :: os) t then (0, f, cp (o :: os) t) else b)

/-- A symbol in the place of nothing. -/
def orSym (s : Int) (b : P3) : P3 := if b.2.2 = 0 then (s, 0, 0) else b

def pieceAt (old : List Int) (s : Int) (t : List Int) : P3 := orSym s (bestFrom (s :: t) old 0 (0, 0, 0))

/-- Begun with a symbol in the place of nothing: the same copy, or that symbol. -/
theorem bestFrom_sym (t : List Int) (s : Int) : ∀ (os : List Int) (f : Int) (b : P3), 0 ≤ b.2.2 → bestFrom t os f (orSym s b) = orSym s (bestFrom t os f b)
  | [], f, b, h0 => rfl
  | o :: os, f, b, h0 => by
    simp only [bestFrom]
    by_cases hn : 2 ≤ cp (o :: os) t ∧ b.2.2 < cp (o :: os) t
    · have h2 : 2 ≤ cp (o :: os) t ∧ (orSym s b).2.2 < cp (o :: os) t := by
        refine ⟨hn.1, ?_⟩
        unfold orSym
        split
        · simp; omega
        · exact hn.2
      rw [if_pos hn, if_pos h2]
      have := bestFrom_sym t s os (f + 1) (0, f, cp (o :: os) t) (by simp; omega)
      unfold orSym at this
      rw [if_neg (by simp; omega)] at this
      exact this
    · have h2 : ¬ (2 ≤ cp (o :: os) t ∧ (orSym s b).2.2 < cp (o :: os) t) := by
        intro ⟨q1, q2⟩
        refine hn ⟨q1, ?_⟩
        unfold orSym at q2
        split at q2
        · omega
        · exact q2
      rw [if_neg hn, if_neg h2]
      exact bestFrom_sym t s os (f + 1) b h0

/-- What is known of the longest copy. -/
theorem bestFrom_ok (t : List Int) (old : List Int) : ∀ (os : List Int) (f : Nat) (b : P3), old.drop f = os → f + os.length = old.length →
    (0 ≤ b.2.2 ∧ (b.2.2 = 0 ∨ (b.1 = 0 ∧ 0 ≤ b.2.1 ∧ 2 ≤ b.2.2 ∧ b.2.1 < (old.length : Int) ∧ b.2.2 = cp (old.drop b.2.1.toNat) t))) →
    (0 ≤ (bestFrom t os f b).2.2 ∧ ((bestFrom t os f b).2.2 = 0 ∨ ((bestFrom t os f b).1 = 0 ∧ 0 ≤ (bestFrom t os f b).2.1 ∧ 2 ≤ (bestFrom t os f b).2.2 ∧ (bestFrom t os f b).2.1 < (old.length : Int) ∧ (bestFrom t os f b).2.2 = cp (old.drop (bestFrom t os f b).2.1.toNat) t)))
  | [], f, b, h1, h2, h => h
  | o :: os, f, b, h1, h2, h => by
    simp only [bestFrom]
    have e : ((f : Int) + 1) = ((f + 1 : Nat) : Int) := by omega
    rw [e]
    have hl : f < old.length := by simp at h2; omega
    refine bestFrom_ok t old os (f + 1) _ ?_ (by simp at h2; omega) ?_
    · rw [List.drop_eq_getElem_cons hl] at h1
      exact (List.cons.inj h1).2
    · split
      · rename_i hn
        refine ⟨by simp; omega, .inr ⟨rfl, by simp, by simpa using hn.1, by simp; omega, by simp [h1]⟩⟩
      · exact h

/-- The pieces that lead from an old list to a new one. -/
def deltaOf (old : List Int) : List Int → List P3
  | [] => []
  | s :: t => pieceAt old s t :: deltaOf old (t.drop ((max (pieceAt old s t).2.2 1).toNat - 1))
termination_by l => l.length
decreasing_by simp; omega

/-- A piece laid behind what is there. -/
def putPiece (old : List Int) (p : P3) (a : List Int) : Option (List Int) :=
  if p.2.1 = 0 ∧ p.2.2 = 0 ∧ 0 ≤ p.1 ∧ p.1 ≤ 7 then some (a ++ [p.1])
  else if p.1 = 0 ∧ 0 ≤ p.2.1 ∧ p.2.1 ≤ (old.length : Int) ∧ 2 ≤ p.2.2 ∧ p.2.2 ≤ (old.length : Int) - p.2.1 then some (a ++ (old.take (p.2.1 + p.2.2).toNat).drop p.2.1.toNat)
  else none

def applyFrom (old : List Int) : List P3 → List Int → Option (List Int)
  | [], a => some a
  | p :: ps, a => match putPiece old p a with
    | none => none
    | some a' => if 40 < a'.length then none else applyFrom old ps a'

def deltaApply (old : List Int) (ps : List P3) : Option (List Int) := if LV old then applyFrom old ps [] else none

/-- How many symbols pieces or tokens copy. -/
def manySum : List P3 → Int
  | [] => 0
  | p :: ps => p.2.2 + manySum ps

/-- How long two lists are equal, at most k. -/
def cpk : Nat → List Int → List Int → Int
  | k + 1, a :: as, b :: bs => if a = b then 1 + cpk k as bs else 0
  | _, _, _ => 0

theorem cpk_nonneg (k : Nat) (a b : List Int) : 0 ≤ cpk k a b := by
  induction k generalizing a b with
  | zero => simp [cpk]
  | succ k ih =>
    cases a with
    | nil => simp [cpk]
    | cons x a =>
      cases b with
      | nil => simp [cpk]
      | cons y b =>
        simp only [cpk]
        split
        · have := ih a b; omega
        · omega

theorem cpk_le (k : Nat) (a b : List Int) : cpk k a b ≤ (k : Int) := by
  induction k generalizing a b with
  | zero => simp [cpk]
  | succ k ih =>
    cases a with
    | nil => simp [cpk]; omega
    | cons x a =>
      cases b with
      | nil => simp [cpk]; omega
      | cons y b =>
        simp only [cpk]
        split
        · have := ih a b; omega
        · omega

theorem cpk_le_left (k : Nat) (a b : List Int) : cpk k a b ≤ (a.length : Int) := by
  induction k generalizing a b with
  | zero => simp [cpk]
  | succ k ih =>
    cases a with
    | nil => simp [cpk]
    | cons x a =>
      cases b with
      | nil => simp [cpk]; omega
      | cons y b =>
        simp only [cpk, List.length_cons]
        split
        · have := ih a b; omega
        · omega

/-- How long a match is, some places back. -/
def mlong (l : List Int) (at_ back : Int) : Int := cpk 9 (l.drop at_.toNat) (l.drop (at_ - back).toNat)

/-- The best match among the next n places back. -/
def mfrom (l : List Int) (at_ : Int) : Nat → Int → P3 → P3
  | 0, _, b => b
  | n + 1, k, b => mfrom l at_ n (k + 1) (if 2 ≤ mlong l at_ k ∧ b.2.2 < mlong l at_ k then (0, k, mlong l at_ k) else b)

def matchAt (l : List Int) (at_ : Int) : P3 := mfrom l at_ (min 16 at_).toNat 1 (0, 0, 0)

theorem mfrom_ok (l : List Int) (at_ : Int) : ∀ (n : Nat) (k : Int) (b : P3), 1 ≤ k → k + n = min 16 at_ + 1 →
    (0 ≤ b.2.2 ∧ (b.2.2 = 0 → b = (0, 0, 0)) ∧ (b.2.2 = 0 ∨ (b.1 = 0 ∧ 1 ≤ b.2.1 ∧ b.2.1 ≤ min 16 at_ ∧ 2 ≤ b.2.2 ∧ b.2.2 = mlong l at_ b.2.1))) →
    (0 ≤ (mfrom l at_ n k b).2.2 ∧ ((mfrom l at_ n k b).2.2 = 0 → mfrom l at_ n k b = (0, 0, 0)) ∧ ((mfrom l at_ n k b).2.2 = 0 ∨ ((mfrom l at_ n k b).1 = 0 ∧ 1 ≤ (mfrom l at_ n k b).2.1 ∧ (mfrom l at_ n k b).2.1 ≤ min 16 at_ ∧ 2 ≤ (mfrom l at_ n k b).2.2 ∧ (mfrom l at_ n k b).2.2 = mlong l at_ (mfrom l at_ n k b).2.1)))
  | 0, k, b, hk, hn, h => h
  | n + 1, k, b, hk, hn, h => by
    simp only [mfrom]
    refine mfrom_ok l at_ n (k + 1) _ (by omega) (by omega) ?_
    split
    · rename_i q
      exact ⟨by simp; omega, by simp; omega, .inr ⟨rfl, by simpa using hk, by simp; omega, by simpa using q.1, rfl⟩⟩
    · exact h

theorem matchAt_ok (l : List Int) (at_ : Int) (h : 0 ≤ at_) : 0 ≤ (matchAt l at_).2.2 ∧ ((matchAt l at_).2.2 = 0 → matchAt l at_ = (0, 0, 0)) ∧ ((matchAt l at_).2.2 = 0 ∨ ((matchAt l at_).1 = 0 ∧ 1 ≤ (matchAt l at_).2.1 ∧ (matchAt l at_).2.1 ≤ min 16 at_ ∧ 2 ≤ (matchAt l at_).2.2 ∧ (matchAt l at_).2.2 = mlong l at_ (matchAt l at_).2.1)) :=
  mfrom_ok l at_ _ 1 (0, 0, 0) (by omega) (by omega) (by simp)

/-- The token at a place. -/
def tokAt (l : List Int) (at_ : Int) : P3 := if 0 < (matchAt l at_).2.2 then matchAt l at_ else (l.getD at_.toNat 0, 0, 0)

/-- Greedy tokens from a place on. -/
def greedy (l : List Int) (at_ : Int) : List P3 :=
  if h : 0 ≤ at_ ∧ at_ < (l.length : Int) then tokAt l at_ :: greedy l (at_ + max (tokAt l at_).2.2 1) else []
termination_by (l.length - at_).toNat
decreasing_by omega

/-- Symbols that are repeated from some places back. -/
def copyBack (back : Int) : Nat → List Int → List Int
  | 0, a => a
  | n + 1, a => copyBack back n (a ++ [a.getD ((a.length : Int) - back).toNat 0])

theorem copyBack_len (back : Int) : ∀ (n : Nat) (a : List Int), (copyBack back n a).length = a.length + n
  | 0, a => rfl
  | n + 1, a => by simp [copyBack, copyBack_len back n]; omega

def putTok (x : P3) (a : List Int) : Option (List Int) :=
  if x.2.1 = 0 ∧ x.2.2 = 0 ∧ 0 ≤ x.1 ∧ x.1 ≤ 7 then some (a ++ [x.1])
  else if x.1 = 0 ∧ 1 ≤ x.2.1 ∧ x.2.1 ≤ min 16 (a.length : Int) ∧ 2 ≤ x.2.2 ∧ x.2.2 ≤ 9 then some (copyBack x.2.1 x.2.2.toNat a)
  else none

def expandFrom : List P3 → List Int → Option (List Int)
  | [], a => some a
  | x :: xs, a => match putTok x a with
    | none => none
    | some a' => if 40 < a'.length then none else expandFrom xs a'

def expand (ts : List P3) : Option (List Int) := expandFrom ts []

/-- What tokens cost. -/
def costOf : List P3 → Int
  | [] => 0
  | x :: xs => (if x.2.2 = 0 then 4 else 8) + costOf xs

/-- As the reference counts it. -/
def costOf' : List P3 → Int
  | [] => 0
  | x :: xs => (if x.2.1 = 0 then 4 else 8) + costOf' xs

/-- Records with numbers in a row. -/
def marks3 (k : Int) : Nat → List P3
  | 0 => []
  | n + 1 => (k, k + 1, k + 2) :: marks3 (k + 3) n

theorem marks3_len {k : Int} {n : Nat} : (marks3 k n).length = n := by
  induction n generalizing k with
  | zero => rfl
  | succ n ih => simp [marks3, ih]

theorem marks3_snoc {k : Int} {n : Nat} : marks3 k (n + 1) = marks3 k n ++ [(k + 3 * n, k + 3 * n + 1, k + 3 * n + 2)] := by
  induction n generalizing k with
  | zero => simp [marks3]
  | succ n ih =>
    rw [marks3, ih, marks3, List.cons_append]
    have : k + 3 + 3 * (n : Int) = k + 3 * ((n + 1 : Nat) : Int) := by omega
    rw [this]

/-- Nothing found: nothing was there. -/
theorem bestFrom_zero {t : List Int} : ∀ (os : List Int) (f : Int) (b : P3), (b.2.2 = 0 → b = (0, 0, 0)) → (bestFrom t os f b).2.2 = 0 → bestFrom t os f b = (0, 0, 0)
  | [], f, b, hb, h => hb h
  | o :: os, f, b, hb, h => by
    simp only [bestFrom] at h ⊢
    refine bestFrom_zero os (f + 1) _ ?_ h
    split
    · rename_i q; intro e; simp at e; omega
    · exact hb

/-- The pieces of valid lists. -/
def deltaD (old l : List Int) : List P3 := if LV old = true ∧ LV l = true then deltaOf old l else []

theorem deltaOf_len (old : List Int) : ∀ (n : Nat) (l : List Int), l.length ≤ n → (deltaOf old l).length ≤ l.length
  | 0, [], _ => by simp [deltaOf]
  | n + 1, [], _ => by simp [deltaOf]
  | n + 1, s :: t, h => by
    rw [deltaOf]
    simp only [List.length_cons] at h ⊢
    have := deltaOf_len old n (t.drop ((max (pieceAt old s t).2.2 1).toNat - 1)) (by simp; omega)
    simp only [List.length_drop] at this
    omega

theorem deltaD_len (old l : List Int) : ((deltaD old l).length : Int) ≤ 40 := by
  unfold deltaD
  split
  · rename_i h
    have h1 := deltaOf_len old l.length l (Nat.le_refl _)
    have h2 := LV_len h.2
    omega
  · simp

/-! ### Steps -/

theorem cp_step {a b : List Int} {f g : Int} (h0 : 0 ≤ f) (h1 : f < (a.length : Int)) (h2 : 0 ≤ g) (h3 : g < (b.length : Int)) :
    cp (a.drop f.toNat) (b.drop g.toNat) = if a.getD f.toNat 0 = b.getD g.toNat 0 then 1 + cp (a.drop (f + 1).toNat) (b.drop (g + 1).toNat) else 0 := by
  rw [drop_lt 0 h0 h1, drop_lt 0 h2 h3, cp]

theorem cp_end {a b : List Int} {f g : Int} (h : ¬ f < (a.length : Int) ∨ ¬ g < (b.length : Int)) : cp (a.drop f.toNat) (b.drop g.toNat) = 0 := by
  rcases h with h | h
  · rw [drop_ge h]; rfl
  · rw [drop_ge h]; cases a.drop f.toNat <;> rfl

theorem best_step {t old : List Int} {f : Int} {b : P3} (h0 : 0 ≤ f) (h1 : f < (old.length : Int)) :
    bestFrom t (old.drop f.toNat) f b = bestFrom t (old.drop (f + 1).toNat) (f + 1) (if 2 ≤ cp (old.drop f.toNat) t ∧ b.2.2 < cp (old.drop f.toNat) t then (0, f, cp (old.drop f.toNat) t) else b) := by
  rw [drop_lt 0 h0 h1, bestFrom]

theorem best_end {t old : List Int} {f : Int} {b : P3} (h : ¬ f < (old.length : Int)) : bestFrom t (old.drop f.toNat) f b = b := by
  rw [drop_ge h, bestFrom]

theorem delta_step {old l : List Int} {a : Int} (h0 : 0 ≤ a) (h1 : a < (l.length : Int)) :
    deltaOf old (l.drop a.toNat) = pieceAt old (l.getD a.toNat 0) (l.drop (a + 1).toNat) :: deltaOf old (l.drop (a + max (pieceAt old (l.getD a.toNat 0) (l.drop (a + 1).toNat)).2.2 1).toNat) := by
  rw [drop_lt 0 h0 h1, deltaOf, List.drop_drop]
  congr 3
  omega

theorem delta_end {old l : List Int} {a : Int} (h : ¬ a < (l.length : Int)) : deltaOf old (l.drop a.toNat) = [] := by
  rw [drop_ge h, deltaOf]

/-- How far a piece reaches. -/
theorem piece_le {old l : List Int} {a : Int} (h0 : 0 ≤ a) (h1 : a < (l.length : Int)) :
    0 ≤ (pieceAt old (l.getD a.toNat 0) (l.drop (a + 1).toNat)).2.2 ∧ a + (pieceAt old (l.getD a.toNat 0) (l.drop (a + 1).toNat)).2.2 ≤ (l.length : Int) := by
  unfold pieceAt
  rw [← drop_lt 0 h0 h1]
  obtain ⟨q1, q2⟩ := bestFrom_ok (l.drop a.toNat) old old 0 (0, 0, 0) rfl (by simp) (by simp)
  generalize hb : bestFrom (l.drop a.toNat) old ((0 : Nat) : Int) (0, 0, 0) = b at *
  unfold orSym
  split
  · simp; omega
  · refine ⟨q1, ?_⟩
    rcases q2 with q2 | q2
    · omega
    · have := cp_le_right (old.drop b.2.1.toNat) (l.drop a.toNat)
      rw [← q2.2.2.2.2, List.length_drop] at this
      omega

end Go.Mx

/-
  M2: laws on deltas.
-/
namespace Go.Mx

/-- A valid piece over an old list of n symbols. -/
def pieceOk (n : Int) (p : P3) : Bool :=
  if p.2.2 = 0 then decide (p.2.1 = 0 ∧ 0 ≤ p.1 ∧ p.1 ≤ 7) else decide (p.1 = 0 ∧ 0 ≤ p.2.1 ∧ p.2.1 ≤ n - 1 ∧ 2 ≤ p.2.2 ∧ p.2.2 ≤ n - p.2.1)

theorem put_sym {old : List Int} {p : P3} {a : List Int} (h : pieceOk old.length p = true) (h0 : p.2.2 = 0) : putPiece old p a = some (a ++ [p.1]) ∧ p.2.1 = 0 ∧ 0 ≤ p.1 ∧ p.1 ≤ 7 := by
  unfold pieceOk at h
  rw [if_pos h0, decide_eq_true_eq] at h
  unfold putPiece
  exact ⟨if_pos ⟨h.1, h0, h.2⟩, h⟩

theorem put_copy {old : List Int} {p : P3} {a : List Int} (h : pieceOk old.length p = true) (h0 : ¬ p.2.2 = 0) :
    putPiece old p a = some (a ++ (old.take (p.2.1 + p.2.2).toNat).drop p.2.1.toNat) ∧ p.1 = 0 ∧ 0 ≤ p.2.1 ∧ 2 ≤ p.2.2 ∧ p.2.1 + p.2.2 ≤ (old.length : Int) := by
  unfold pieceOk at h
  rw [if_neg h0, decide_eq_true_eq] at h
  unfold putPiece
  rw [if_neg (fun q => h0 q.2.1), if_pos ⟨h.1, h.2.1, by omega, h.2.2.2.1, h.2.2.2.2⟩]
  exact ⟨rfl, h.1, h.2.1, h.2.2.2.1, by omega⟩

theorem put_none {old : List Int} {p : P3} {a : List Int} (h : pieceOk old.length p = false) : putPiece old p a = none := by
  unfold pieceOk at h
  unfold putPiece
  by_cases h0 : p.2.2 = 0
  · rw [if_pos h0, decide_eq_false_iff_not] at h
    rw [if_neg (fun q => h ⟨q.1, q.2.2⟩), if_neg (fun q => by omega)]
  · rw [if_neg h0, decide_eq_false_iff_not] at h
    rw [if_neg (fun q => h0 q.2.1), if_neg (fun q => h ⟨q.1, q.2.1, by omega, q.2.2.2.1, q.2.2.2.2⟩)]

theorem put_some {old : List Int} {p : P3} {a a' : List Int} (h : putPiece old p a = some a') : pieceOk old.length p = true := by
  cases hp : pieceOk old.length p with
  | true => rfl
  | false => rw [put_none hp] at h; cases h

theorem put_len {old : List Int} {p : P3} {a a' : List Int} (h : putPiece old p a = some a') : 0 ≤ p.2.2 ∧ (a'.length : Int) = a.length + max p.2.2 1 := by
  have hp := put_some h
  by_cases h0 : p.2.2 = 0
  · rw [(put_sym hp h0).1] at h
    cases h
    simp; omega
  · obtain ⟨q1, q2, q3, q4, q5⟩ := put_copy (a := a) hp h0
    rw [q1] at h
    cases h
    simp; omega

theorem apply_step {old : List Int} {ps : List P3} {i : Int} {a : List Int} (h0 : 0 ≤ i) (h1 : i < (ps.length : Int)) :
    applyFrom old (ps.drop i.toNat) a = match putPiece old (ps.getD i.toNat (0, 0, 0)) a with
      | none => none
      | some a' => if 40 < a'.length then none else applyFrom old (ps.drop (i + 1).toNat) a' := by
  rw [drop_lt (0, 0, 0) h0 h1, applyFrom] <;> (cases putPiece old (ps.getD i.toNat (0, 0, 0)) a <;> rfl)

theorem apply_end {old : List Int} {ps : List P3} {i : Int} {a : List Int} (h : ¬ i < (ps.length : Int)) : applyFrom old (ps.drop i.toNat) a = some a := by
  rw [drop_ge h, applyFrom]

theorem apply_len {old : List Int} : ∀ {ps : List P3} {a r : List Int}, applyFrom old ps a = some r → a.length ≤ 40 → r.length ≤ 40
  | [], a, r, h, ha => by rw [applyFrom] at h; cases h; exact ha
  | p :: ps, a, r, h, ha => by
    rw [applyFrom] at h
    split at h
    · cases h
    · split at h
      · cases h
      · exact apply_len h (by omega)

theorem applyD_len (old : List Int) (ps : List P3) : (((deltaApply old ps).getD []).length : Int) ≤ 40 := by
  unfold deltaApply
  split
  · cases h : applyFrom old ps [] with
    | none => simp
    | some r => have := apply_len h (by simp); simp; omega
  · simp

/-- What was copied is no more than what there is. -/
theorem apply_many {old : List Int} : ∀ {ps : List P3} {a r : List Int}, applyFrom old ps a = some r → (∀ p ∈ ps, 0 ≤ p.2.2) ∧ 0 ≤ manySum ps ∧ a.length + manySum ps ≤ r.length
  | [], a, r, h => by rw [applyFrom] at h; cases h; simp [manySum]
  | p :: ps, a, r, h => by
    rw [applyFrom] at h
    split at h
    · cases h
    · rename_i a' ha
      split at h
      · cases h
      · obtain ⟨q1, q2, q3⟩ := apply_many h
        obtain ⟨r1, r2⟩ := put_len ha
        refine ⟨?_, ?_, ?_⟩
        · intro x hx
          rcases List.mem_cons.1 hx with rfl | hx
          · exact r1
          · exact q1 x hx
        · simp only [manySum]; omega
        · simp only [manySum]; omega

theorem many_step {ps : List P3} {i : Int} (h0 : 0 ≤ i) (h1 : i < (ps.length : Int)) : manySum (ps.drop i.toNat) = (ps.getD i.toNat (0, 0, 0)).2.2 + manySum (ps.drop (i + 1).toNat) := by
  rw [drop_lt (0, 0, 0) h0 h1, manySum]

theorem many_end {ps : List P3} {i : Int} (h : ¬ i < (ps.length : Int)) : manySum (ps.drop i.toNat) = 0 := by
  rw [drop_ge h, manySum]

theorem many_nonneg : ∀ {ps : List P3}, (∀ p ∈ ps, 0 ≤ p.2.2) → 0 ≤ manySum ps
  | [], _ => by simp [manySum]
  | p :: ps, h => by
    have := many_nonneg (ps := ps) (fun x hx => h x (List.mem_cons_of_mem _ hx))
    have := h p (List.mem_cons_self ..)
    simp only [manySum]; omega

theorem many_drop {ps : List P3} (h : ∀ p ∈ ps, 0 ≤ p.2.2) (n : Nat) : 0 ≤ manySum (ps.drop n) :=
  many_nonneg fun p hp => h p (List.mem_of_mem_drop hp)

/-- How many symbols were copied. -/
def copiedD (old : List Int) (ps : List P3) : Int := if (deltaApply old ps).isSome then manySum ps else -1

end Go.Mx

/-
  M3: what the statements on deltas say of lists.
-/
namespace Go.Mx

/-- Where two lists are equal. -/
theorem cp_take (a b : List Int) : a.take (cp a b).toNat = b.take (cp a b).toNat := by
  induction a generalizing b with
  | nil => simp [cp]
  | cons x a ih =>
    cases b with
    | nil => simp [cp]
    | cons y b =>
      simp only [cp]
      split
      · rename_i h
        subst h
        have := cp_nonneg a b
        rw [show (1 + cp a b).toNat = (cp a b).toNat + 1 by omega]
        simp [ih b]
      · simp

theorem take_drop_cut {l : List Int} {f m : Int} (hf : 0 ≤ f) (hm : 0 ≤ m) : (l.take (f + m).toNat).drop f.toNat = (l.drop f.toNat).take m.toNat := by
  rw [List.drop_take]
  congr 1
  omega

theorem pieceAt_cases (old : List Int) (s : Int) (t : List Int) :
    (pieceAt old s t = (s, 0, 0)) ∨ (∃ f m, pieceAt old s t = (0, f, m) ∧ 0 ≤ f ∧ 2 ≤ m ∧ f < (old.length : Int) ∧ m = cp (old.drop f.toNat) (s :: t)) := by
  unfold pieceAt
  obtain ⟨q1, q2⟩ := bestFrom_ok (s :: t) old old 0 (0, 0, 0) rfl (by simp) (by simp)
  generalize hb : bestFrom (s :: t) old ((0 : Nat) : Int) (0, 0, 0) = b at *
  unfold orSym
  by_cases h : b.2.2 = 0
  · exact .inl (if_pos h)
  · obtain ⟨b1, b2, b3⟩ := b
    rcases q2 with q2 | q2
    · exact absurd q2 h
    · refine .inr ⟨b2, b3, ?_, q2.2.1, q2.2.2.1, q2.2.2.2.1, q2.2.2.2.2⟩
      rw [if_neg h]
      exact Prod.ext q2.1 rfl

/-- PIECES LEAD TO THE NEW LIST. -/
theorem delta_apply (old : List Int) : ∀ (n : Nat) (l acc : List Int), l.length ≤ n → (∀ x ∈ l, 0 ≤ x ∧ x ≤ 7) → acc.length + l.length ≤ 40 → applyFrom old (deltaOf old l) acc = some (acc ++ l)
  | 0, [], acc, _, _, _ => by simp [deltaOf, applyFrom]
  | n + 1, [], acc, _, _, _ => by simp [deltaOf, applyFrom]
  | n + 1, s :: t, acc, hn, hx, hl => by
    rw [deltaOf, applyFrom]
    simp only [List.length_cons] at hn hl
    have hs := hx s (List.mem_cons_self ..)
    rcases pieceAt_cases old s t with h | ⟨f, m, h, hf, hm, hfl, hcp⟩
    · rw [h]
      have hp : putPiece old (s, 0, 0) acc = some (acc ++ [s]) := if_pos ⟨rfl, rfl, hs⟩
      rw [hp]
      have h1 : ¬ 40 < (acc ++ [s]).length := by simp; omega
      simp only [if_neg h1]
      have e0 : ((max (0 : Int) 1).toNat - 1) = 0 := rfl
      rw [e0, List.drop_zero, delta_apply old n t (acc ++ [s]) (by omega) (fun x hm => hx x (List.mem_cons_of_mem _ hm)) (by simp; omega)]
      simp
    · rw [h]
      have hle := cp_le_left (old.drop f.toNat) (s :: t)
      have hle' := cp_le_right (old.drop f.toNat) (s :: t)
      rw [← hcp] at hle hle'
      simp only [List.length_drop, List.length_cons] at hle hle'
      have hp : putPiece old (0, f, m) acc = some (acc ++ (old.take (f + m).toNat).drop f.toNat) := by
        unfold putPiece
        rw [if_neg (by simp; omega), if_pos ⟨rfl, hf, by simp; omega, hm, by simp; omega⟩]
      rw [hp, take_drop_cut hf (by omega)]
      have he : (old.drop f.toNat).take m.toNat = (s :: t).take m.toNat := by rw [hcp]; exact cp_take _ _
      rw [he]
      have hlen : ((s :: t).take m.toNat).length = m.toNat := by simp; omega
      have h1 : ¬ 40 < (acc ++ (s :: t).take m.toNat).length := by rw [List.length_append, hlen]; omega
      simp only [if_neg h1]
      have hd : t.drop ((max m 1).toNat - 1) = (s :: t).drop m.toNat := by
        obtain ⟨k, hk⟩ : ∃ k, m.toNat = k + 1 := ⟨m.toNat - 1, by omega⟩
        rw [show (max m 1).toNat - 1 = k by omega, hk]; rfl
      rw [hd, delta_apply old n ((s :: t).drop m.toNat) (acc ++ (s :: t).take m.toNat) (by simp; omega) (fun x hm => hx x (List.mem_of_mem_drop hm)) (by rw [List.length_append, hlen]; simp; omega)]
      rw [List.append_assoc, List.take_append_drop]

theorem delta_leads {old l : List Int} (ho : LV old = true) (hl : LV l = true) : deltaApply old (deltaD old l) = some l := by
  unfold deltaApply deltaD
  rw [if_pos ho, if_pos ⟨ho, hl⟩, delta_apply old l.length l [] (Nat.le_refl _) (LV_in hl) (by simp; exact LV_len hl)]
  simp

theorem deltaD_le {old l : List Int} : (deltaD old l).length ≤ l.length := by
  unfold deltaD
  split
  · exact deltaOf_len old l.length l (Nat.le_refl _)
  · simp

/-- WITHOUT AN OLD LIST ALL SYMBOLS ARE NEW. -/
theorem delta_none : ∀ (l : List Int), deltaOf [] l = l.map fun s => (s, 0, 0)
  | [] => by simp [deltaOf]
  | s :: t => by
    have hp : pieceAt [] s t = (s, 0, 0) := rfl
    have e0 : ((max (0 : Int) 1).toNat - 1) = 0 := rfl
    rw [deltaOf, hp]
    simp only [e0, List.drop_zero, delta_none t, List.map_cons]

theorem deltaD_none {l : List Int} (hl : LV l = true) : deltaD [] l = l.map fun s => (s, 0, 0) := by
  unfold deltaD
  rw [if_pos ⟨rfl, hl⟩, delta_none]

theorem bestFrom_stay (t : List Int) : ∀ (os : List Int) (f : Int) (b : P3), (os.length : Int) ≤ b.2.2 → bestFrom t os f b = b
  | [], f, b, h => rfl
  | o :: os, f, b, h => by
    simp only [bestFrom]
    have := cp_le_left (o :: os) t
    rw [if_neg (by omega)]
    exact bestFrom_stay t os (f + 1) b (by simp only [List.length_cons] at h; omega)

theorem cp_self (a : List Int) : cp a a = a.length := by
  induction a with
  | nil => rfl
  | cons x a ih => simp [cp, ih]; omega

/-- A LIST IS ONE COPY OF ITSELF. -/
theorem deltaD_same {old : List Int} (ho : LV old = true) (h2 : 2 ≤ old.length) : deltaD old old = [(0, 0, (old.length : Int))] := by
  unfold deltaD
  rw [if_pos ⟨ho, ho⟩]
  cases old with
  | nil => simp at h2
  | cons s t =>
    have hb : bestFrom (s :: t) (s :: t) 0 (0, 0, 0) = (0, 0, ((s :: t).length : Int)) := by
      simp only [bestFrom]
      rw [cp_self, if_pos ⟨by omega, by simp only [List.length_cons] at h2 ⊢; omega⟩]
      exact bestFrom_stay _ _ _ _ (by simp only [List.length_cons]; omega)
    have hp : pieceAt (s :: t) s t = (0, 0, ((s :: t).length : Int)) := by
      unfold pieceAt orSym
      rw [hb, if_neg (by simp; omega)]
    rw [deltaOf, hp]
    have : t.drop ((max ((s :: t).length : Int) 1).toNat - 1) = [] := List.drop_eq_nil_of_le (by simp; omega)
    simp only [this, deltaOf]

theorem deltaD_nil (old : List Int) : deltaD old [] = [] := by
  unfold deltaD
  split <;> simp [deltaOf]

/-- The longest copy, the first one of several. -/
theorem bestFrom_max (t : List Int) (old : List Int) : ∀ (os : List Int) (f : Nat) (b : P3), old.drop f = os → f + os.length = old.length → 0 ≤ b.2.2 → b.2.1 ≤ (f : Int) →
    (∀ g : Nat, g < f → cp (old.drop g) t ≤ max b.2.2 1 ∧ (0 < b.2.2 → cp (old.drop g) t = b.2.2 → b.2.1 ≤ (g : Int))) →
    ∀ g : Nat, g < old.length → cp (old.drop g) t ≤ max (bestFrom t os f b).2.2 1 ∧ (0 < (bestFrom t os f b).2.2 → cp (old.drop g) t = (bestFrom t os f b).2.2 → (bestFrom t os f b).2.1 ≤ (g : Int))
  | [], f, b, h1, h2, h0, _, h, g, hg => h g (by simp at h2; omega)
  | o :: os, f, b, h1, h2, h0, hbf, h, g, hg => by
    simp only [bestFrom]
    have hl : f < old.length := by simp at h2; omega
    have e : ((f : Int) + 1) = ((f + 1 : Nat) : Int) := by omega
    rw [e]
    refine bestFrom_max t old os (f + 1) _ ?_ (by simp at h2; omega) ?_ ?_ ?_ g hg
    · rw [List.drop_eq_getElem_cons hl] at h1
      exact (List.cons.inj h1).2
    · split
      · simp; omega
      · exact h0
    · split
      · show (f : Int) ≤ ((f + 1 : Nat) : Int)
        omega
      · omega
    · intro g' hg'
      rw [← h1]
      by_cases hc : 2 ≤ cp (old.drop f) t ∧ b.2.2 < cp (old.drop f) t
      · rw [if_pos hc]
        simp only
        rcases Nat.lt_succ_iff_lt_or_eq.1 hg' with hlt | rfl
        · obtain ⟨q1, q2⟩ := h g' hlt
          exact ⟨by omega, fun _ hcp => by omega⟩
        · exact ⟨by omega, fun _ _ => by omega⟩
      · rw [if_neg hc]
        rcases Nat.lt_succ_iff_lt_or_eq.1 hg' with hlt | rfl
        · exact h g' hlt
        · have := cp_nonneg (old.drop g') t
          exact ⟨by omega, fun hb hcp => by omega⟩

theorem pieceAt_max {old : List Int} (s : Int) (t : List Int) {g : Int} (h0 : 0 ≤ g) (hg : g < (old.length : Int)) :
    cp (old.drop g.toNat) (s :: t) ≤ max (pieceAt old s t).2.2 1 ∧ (0 < (pieceAt old s t).2.2 → cp (old.drop g.toNat) (s :: t) = (pieceAt old s t).2.2 → (pieceAt old s t).2.1 ≤ g) := by
  have h := bestFrom_max (s :: t) old old 0 (0, 0, 0) rfl (by simp) (by simp) (by simp) (by intro g hg; omega) g.toNat (by omega)
  unfold pieceAt orSym
  have hz := bestFrom_zero (t := s :: t) old 0 (0, 0, 0) (by simp)
  generalize hb : bestFrom (s :: t) old ((0 : Nat) : Int) (0, 0, 0) = b at *
  split
  · rename_i hb0
    rw [hb0] at h
    exact ⟨h.1, fun q => by simp at q⟩
  · refine ⟨h.1, fun q1 q2 => ?_⟩
    have := h.2 q1 q2
    omega

/-- PIECES HAVE ALL SYMBOLS. -/
def longSum : List P3 → Int
  | [] => 0
  | p :: ps => max p.2.2 1 + longSum ps

theorem long_step {ps : List P3} {i : Int} (h0 : 0 ≤ i) (h1 : i < (ps.length : Int)) : longSum (ps.drop i.toNat) = max (ps.getD i.toNat (0, 0, 0)).2.2 1 + longSum (ps.drop (i + 1).toNat) := by
  rw [drop_lt (0, 0, 0) h0 h1, longSum]

theorem long_end {ps : List P3} {i : Int} (h : ¬ i < (ps.length : Int)) : longSum (ps.drop i.toNat) = 0 := by
  rw [drop_ge h, longSum]

theorem long_nonneg : ∀ (ps : List P3), 0 ≤ longSum ps
  | [] => by simp [longSum]
  | p :: ps => by have := long_nonneg ps; simp only [longSum]; omega

theorem apply_long {old : List Int} : ∀ {ps : List P3} {a r : List Int}, applyFrom old ps a = some r → (r.length : Int) = a.length + longSum ps
  | [], a, r, h => by rw [applyFrom] at h; cases h; simp [longSum]
  | p :: ps, a, r, h => by
    rw [applyFrom] at h
    split at h
    · cases h
    · rename_i a' ha
      split at h
      · cases h
      · have := apply_long h
        have := (put_len ha).2
        simp only [longSum]; omega

theorem apply_in {old : List Int} (ho : ∀ x ∈ old, 0 ≤ x ∧ x ≤ 7) : ∀ {ps : List P3} {a r : List Int}, applyFrom old ps a = some r → (∀ x ∈ a, 0 ≤ x ∧ x ≤ 7) → ∀ x ∈ r, 0 ≤ x ∧ x ≤ 7
  | [], a, r, h, ha => by rw [applyFrom] at h; cases h; exact ha
  | p :: ps, a, r, h, ha => by
    rw [applyFrom] at h
    split at h
    · cases h
    · rename_i a' ha'
      split at h
      · cases h
      · refine apply_in ho h ?_
        have hp := put_some ha'
        by_cases h0 : p.2.2 = 0
        · obtain ⟨q1, _, q2⟩ := put_sym (a := a) hp h0
          rw [q1] at ha'; cases ha'
          intro x hx
          rcases List.mem_append.1 hx with hx | hx
          · exact ha x hx
          · simp at hx; subst hx; exact q2
        · obtain ⟨q1, _⟩ := put_copy (a := a) hp h0
          rw [q1] at ha'; cases ha'
          intro x hx
          rcases List.mem_append.1 hx with hx | hx
          · exact ha x hx
          · exact ho x (List.mem_of_mem_take (List.mem_of_mem_drop hx))

theorem deltaApply_some {old : List Int} {ps : List P3} {r : List Int} (h : deltaApply old ps = some r) : LV old = true ∧ applyFrom old ps [] = some r := by
  unfold deltaApply at h
  split at h
  · rename_i ho; exact ⟨ho, h⟩
  · cases h

theorem apply_valid {old : List Int} {ps : List P3} {r : List Int} (h : deltaApply old ps = some r) : (r.length : Int) = longSum ps ∧ LV r = true := by
  obtain ⟨h1, h2⟩ := deltaApply_some h
  have := apply_long h2
  refine ⟨by simpa using this, LV_iff.2 ⟨apply_len h2 (by simp), apply_in (LV_in h1) h2 (by simp)⟩⟩

/-- What is behind does not depend on what is before. -/
theorem apply_behind {old : List Int} : ∀ {ps : List P3} {a r : List Int}, applyFrom old ps a = some r → ∃ s, r = a ++ s ∧ ∀ b : List Int, b.length ≤ a.length → applyFrom old ps b = some (b ++ s)
  | [], a, r, h => by rw [applyFrom] at h; cases h; exact ⟨[], by simp, fun b _ => by simp [applyFrom]⟩
  | p :: ps, a, r, h => by
    rw [applyFrom] at h
    split at h
    · cases h
    · rename_i a' ha
      split at h
      · cases h
      · rename_i hle
        obtain ⟨s, h1, h2⟩ := apply_behind h
        have hp := put_some ha
        obtain ⟨d, hd1, hd2⟩ : ∃ d, a' = a ++ d ∧ ∀ b : List Int, putPiece old p b = some (b ++ d) := by
          by_cases h0 : p.2.2 = 0
          · have q := put_sym (a := a) hp h0
            rw [q.1] at ha; cases ha
            exact ⟨_, rfl, fun b => (put_sym hp h0).1⟩
          · have q := put_copy (a := a) hp h0
            rw [q.1] at ha; cases ha
            exact ⟨_, rfl, fun b => (put_copy hp h0).1⟩
        refine ⟨d ++ s, by rw [h1, hd1, List.append_assoc], fun b hb => ?_⟩
        rw [applyFrom, hd2 b]
        have : ¬ 40 < (b ++ d).length := by rw [hd1] at hle; simp at hle ⊢; omega
        simp only [if_neg this]
        rw [h2 (b ++ d) (by rw [hd1]; simp; omega), List.append_assoc]

theorem apply_append {old : List Int} : ∀ {ps qs : List P3} {a r : List Int}, applyFrom old (ps ++ qs) a = some r → ∃ m, applyFrom old ps a = some m ∧ applyFrom old qs m = some r
  | [], qs, a, r, h => ⟨a, by simp [applyFrom], h⟩
  | p :: ps, qs, a, r, h => by
    rw [List.cons_append, applyFrom] at h
    split at h
    · cases h
    · rename_i a' ha
      split at h
      · cases h
      · rename_i hle
        obtain ⟨m, h1, h2⟩ := apply_append h
        refine ⟨m, ?_, h2⟩
        rw [applyFrom, ha]
        simp only [if_neg hle]
        exact h1

/-- THE FIRST PIECES HAVE THE FIRST SYMBOLS. -/
theorem apply_begin {old : List Int} {ps : List P3} {r : List Int} (h : deltaApply old ps = some r) (k : Nat) :
    ∃ x y, deltaApply old (ps.take k) = some x ∧ deltaApply old (ps.drop k) = some y ∧ x ++ y = r := by
  obtain ⟨h1, h2⟩ := deltaApply_some h
  rw [← List.take_append_drop k ps] at h2
  obtain ⟨m, h3, h4⟩ := apply_append h2
  obtain ⟨s, h5, h6⟩ := apply_behind h4
  refine ⟨m, s, by unfold deltaApply; rw [if_pos h1]; exact h3, ?_, h5.symm⟩
  unfold deltaApply
  rw [if_pos h1]
  have := h6 [] (by simp)
  simpa using this

/-- SYMBOLS BEHIND THE OLD LIST DO NO HARM. -/
theorem apply_more {old : List Int} {x : Int} : ∀ {ps : List P3} {a r : List Int}, applyFrom old ps a = some r → applyFrom (old ++ [x]) ps a = some r
  | [], a, r, h => by rw [applyFrom] at h ⊢; exact h
  | p :: ps, a, r, h => by
    rw [applyFrom] at h
    split at h
    · cases h
    · rename_i a' ha
      split at h
      · cases h
      · rename_i hle
        have hp := put_some ha
        have : putPiece (old ++ [x]) p a = some a' := by
          by_cases h0 : p.2.2 = 0
          · obtain ⟨q1, q2, q3⟩ := put_sym (a := a) hp h0
            rw [q1] at ha; cases ha
            exact if_pos ⟨q2, h0, q3⟩
          · obtain ⟨q1, q2, q3, q4, q5⟩ := put_copy (a := a) hp h0
            rw [q1] at ha; cases ha
            unfold putPiece
            rw [if_neg (fun q => h0 q.2.1), if_pos ⟨q2, q3, by simp; omega, q4, by simp; omega⟩]
            rw [List.take_append_of_le_length (by omega)]
        rw [applyFrom, this]
        simp only [if_neg hle]
        exact apply_more h

theorem deltaApply_more {old : List Int} {x : Int} {ps : List P3} {r : List Int} (h : deltaApply old ps = some r) (hx : 0 ≤ x ∧ x ≤ 7) (hl : ¬ (old.length : Int) = 40) : deltaApply (old ++ [x]) ps = some r := by
  obtain ⟨h1, h2⟩ := deltaApply_some h
  have hv : LV (old ++ [x]) = true := by
    have := LV_len h1
    refine LV_iff.2 ⟨by simp; omega, fun n hn => ?_⟩
    rcases List.mem_append.1 hn with hn | hn
    · exact LV_in h1 n hn
    · simp at hn; subst hn; exact hx
  unfold deltaApply
  rw [if_pos hv]
  exact apply_more h2

/-- How many pieces are symbols. -/
def zeros : List P3 → Int
  | [] => 0
  | p :: ps => (if p.2.2 = 0 then 1 else 0) + zeros ps

theorem zeros_step {ps : List P3} {i : Int} (h0 : 0 ≤ i) (h1 : i < (ps.length : Int)) : zeros (ps.drop i.toNat) = (if (ps.getD i.toNat (0, 0, 0)).2.2 = 0 then 1 else 0) + zeros (ps.drop (i + 1).toNat) := by
  rw [drop_lt (0, 0, 0) h0 h1, zeros]

theorem zeros_end {ps : List P3} {i : Int} (h : ¬ i < (ps.length : Int)) : zeros (ps.drop i.toNat) = 0 := by
  rw [drop_ge h, zeros]

theorem zeros_nonneg : ∀ (ps : List P3), 0 ≤ zeros ps
  | [] => by simp [zeros]
  | p :: ps => by have := zeros_nonneg ps; simp only [zeros]; split <;> omega

theorem many_zeros : ∀ {ps : List P3}, (∀ p ∈ ps, 0 ≤ p.2.2) → manySum ps + zeros ps = longSum ps
  | [], _ => by simp [manySum, zeros, longSum]
  | p :: ps, h => by
    have := many_zeros (ps := ps) (fun x hx => h x (List.mem_cons_of_mem _ hx))
    have := h p (List.mem_cons_self ..)
    simp only [manySum, zeros, longSum]
    split <;> omega

theorem copied_len {old : List Int} {ps : List P3} (h : ¬ copiedD old ps < 0) : ∃ r, deltaApply old ps = some r ∧ copiedD old ps + zeros ps = r.length ∧ copiedD old ps ≤ 40 ∧ zeros ps ≤ 40 := by
  unfold copiedD at h ⊢
  split at h
  · rename_i hs
    obtain ⟨r, hr⟩ := Option.isSome_iff_exists.1 hs
    rw [if_pos hs]
    obtain ⟨h1, h2⟩ := deltaApply_some hr
    have q1 := apply_many h2
    have q2 := (apply_valid hr).1
    have q3 := many_zeros q1.1
    have q4 := apply_len h2 (by simp)
    have q5 := zeros_nonneg ps
    exact ⟨r, hr, by omega, by omega, by omega⟩
  · omega

theorem copied_all {old : List Int} (ho : LV old = true) (h2 : 2 ≤ old.length) : copiedD old (deltaD old old) = old.length := by
  unfold copiedD
  rw [delta_leads ho ho, deltaD_same ho h2]
  simp [manySum]

end Go.Mx

/-
  M4: laws on matches and tokens.
-/
namespace Go.Mx

theorem cpk_step {k : Nat} {a b : List Int} {f g : Int} (h0 : 0 ≤ f) (h1 : f < (a.length : Int)) (h2 : 0 ≤ g) (h3 : g < (b.length : Int)) :
    cpk (k + 1) (a.drop f.toNat) (b.drop g.toNat) = if a.getD f.toNat 0 = b.getD g.toNat 0 then 1 + cpk k (a.drop (f + 1).toNat) (b.drop (g + 1).toNat) else 0 := by
  rw [drop_lt 0 h0 h1, drop_lt 0 h2 h3, cpk]

theorem cpk_end {k : Nat} {a b : List Int} {f : Int} (h : ¬ f < (a.length : Int)) : cpk k (a.drop f.toNat) b = 0 := by
  rw [drop_ge h]; cases k <;> rfl

theorem cpk_zero {a b : List Int} : cpk 0 a b = 0 := by cases a <;> cases b <;> rfl

theorem mfrom_step {l : List Int} {a : Int} {n : Nat} {k : Int} {b : P3} : mfrom l a (n + 1) k b = mfrom l a n (k + 1) (if 2 ≤ mlong l a k ∧ b.2.2 < mlong l a k then (0, k, mlong l a k) else b) := rfl

/-- A match within a valid list; nothing elsewhere. -/
def matchD (l : List Int) (a : Int) : P3 := if LV l = true ∧ 0 ≤ a ∧ a < (l.length : Int) then matchAt l a else (0, 0, 0)

theorem mlong_le (l : List Int) {a k : Int} (h0 : 0 ≤ a) (h1 : a ≤ (l.length : Int)) : 0 ≤ mlong l a k ∧ mlong l a k ≤ 9 ∧ a + mlong l a k ≤ (l.length : Int) := by
  have q1 := cpk_nonneg 9 (l.drop a.toNat) (l.drop (a - k).toNat)
  have q2 := cpk_le 9 (l.drop a.toNat) (l.drop (a - k).toNat)
  have q3 := cpk_le_left 9 (l.drop a.toNat) (l.drop (a - k).toNat)
  unfold mlong
  simp only [List.length_drop] at q3
  refine ⟨q1, by omega, by omega⟩

/-- What is known of the token at a place. -/
theorem tokAt_ok (l : List Int) {a : Int} (h0 : 0 ≤ a) (h1 : a < (l.length : Int)) :
    0 ≤ (tokAt l a).2.2 ∧ a + max (tokAt l a).2.2 1 ≤ (l.length : Int) ∧ ((tokAt l a).2.2 = 0 → tokAt l a = (l.getD a.toNat 0, 0, 0)) ∧
    (¬ (tokAt l a).2.2 = 0 → (tokAt l a).1 = 0 ∧ 1 ≤ (tokAt l a).2.1 ∧ (tokAt l a).2.1 ≤ min 16 a ∧ 2 ≤ (tokAt l a).2.2 ∧ (tokAt l a).2.2 ≤ 9 ∧ (tokAt l a).2.2 = mlong l a (tokAt l a).2.1) := by
  obtain ⟨q1, q2, q3⟩ := matchAt_ok l a h0
  unfold tokAt
  by_cases hp : 0 < (matchAt l a).2.2
  · rw [if_pos hp]
    have q4 := q3.resolve_left (by omega)
    have q5 := mlong_le l (k := (matchAt l a).2.1) h0 (by omega)
    rw [← q4.2.2.2.2] at q5
    exact ⟨q1, by omega, fun h => by omega, fun _ => ⟨q4.1, q4.2.1, q4.2.2.1, q4.2.2.2.1, q5.2.1, q4.2.2.2.2⟩⟩
  · rw [if_neg hp]
    refine ⟨by simp, ?_, fun _ => rfl, fun h => absurd rfl h⟩
    show a + max 0 1 ≤ _
    omega

theorem greedy_step {l : List Int} {a : Int} (h0 : 0 ≤ a) (h1 : a < (l.length : Int)) : greedy l a = tokAt l a :: greedy l (a + max (tokAt l a).2.2 1) := by
  rw [greedy, dif_pos ⟨h0, h1⟩]

theorem greedy_end {l : List Int} {a : Int} (h : ¬ a < (l.length : Int)) : greedy l a = [] := by
  rw [greedy, dif_neg (fun q => h q.2)]

theorem greedy_len (l : List Int) : ∀ (n : Nat) (a : Int), 0 ≤ a → a ≤ (l.length : Int) → (l.length : Int) - a ≤ n → ((greedy l a).length : Int) ≤ (l.length : Int) - a
  | 0, a, h0, h1, h => by rw [greedy_end (by omega)]; simp; omega
  | n + 1, a, h0, h1, h => by
    by_cases hl : a < (l.length : Int)
    · rw [greedy_step h0 hl]
      obtain ⟨q1, q2, _⟩ := tokAt_ok l h0 hl
      have := greedy_len l n (a + max (tokAt l a).2.2 1) (by omega) (by omega) (by omega)
      simp only [List.length_cons]
      omega
    · rw [greedy_end hl]; simp; omega

def greedyD (l : List Int) : List P3 := if LV l = true then greedy l 0 else []

theorem greedyD_len (l : List Int) : ((greedyD l).length : Int) ≤ (l.length : Int) ∧ ((greedyD l).length : Int) ≤ 40 := by
  unfold greedyD
  split
  · rename_i h
    have := greedy_len l l.length 0 (by omega) (by omega) (by omega)
    have := LV_len h
    omega
  · simp

theorem copyBack_snoc (back : Int) (n : Nat) (a : List Int) : copyBack back (n + 1) a = copyBack back n (a ++ [a.getD ((a.length : Int) - back).toNat 0]) := rfl

/-- A valid token behind some symbols (as the reference asks it). -/
def tokOk (x : P3) (n : Int) : Bool :=
  if x.2.1 = 0 then decide (x.2.2 = 0 ∧ (0 ≤ x.1 ∧ x.1 ≤ 7) ∧ n < 40)
  else decide (x.1 = 0 ∧ (1 ≤ x.2.1 ∧ x.2.1 ≤ min 16 n) ∧ (2 ≤ x.2.2 ∧ x.2.2 ≤ 9) ∧ n + x.2.2 ≤ 40)

theorem expand_step {xs : List P3} {i : Int} {a : List Int} (h0 : 0 ≤ i) (h1 : i < (xs.length : Int)) :
    expandFrom (xs.drop i.toNat) a = match putTok (xs.getD i.toNat (0, 0, 0)) a with
      | none => none
      | some a' => if 40 < a'.length then none else expandFrom (xs.drop (i + 1).toNat) a' := by
  rw [drop_lt (0, 0, 0) h0 h1, expandFrom] <;> (cases putTok (xs.getD i.toNat (0, 0, 0)) a <;> rfl)

theorem expand_put {xs : List P3} {i : Int} {a a' : List Int} (h0 : 0 ≤ i) (h1 : i < (xs.length : Int)) (h : putTok (xs.getD i.toNat (0, 0, 0)) a = some a') :
    expandFrom (xs.drop i.toNat) a = if 40 < a'.length then none else expandFrom (xs.drop (i + 1).toNat) a' := by
  rw [expand_step h0 h1, h]

theorem expand_none {xs : List P3} {i : Int} {a : List Int} (h0 : 0 ≤ i) (h1 : i < (xs.length : Int)) (h : putTok (xs.getD i.toNat (0, 0, 0)) a = none) : expandFrom (xs.drop i.toNat) a = none := by
  rw [expand_step h0 h1, h]

theorem expand_end {xs : List P3} {i : Int} {a : List Int} (h : ¬ i < (xs.length : Int)) : expandFrom (xs.drop i.toNat) a = some a := by
  rw [drop_ge h, expandFrom]

theorem expand_sym {xs : List P3} {i : Int} {a : List Int} (h0 : 0 ≤ i) (h1 : i < (xs.length : Int)) {s b m : Int} (hx : xs.getD i.toNat (0, 0, 0) = (s, b, m)) (h : tokOk (s, b, m) a.length = true) (hb : b = 0) :
    m = 0 ∧ (a.length : Int) < 40 ∧ expandFrom (xs.drop i.toNat) a = expandFrom (xs.drop (i + 1).toNat) (a ++ [s]) := by
  unfold tokOk at h
  simp only [if_pos hb, decide_eq_true_eq] at h
  refine ⟨h.1, h.2.2, ?_⟩
  rw [expand_step h0 h1, hx]
  have : putTok (s, b, m) a = some (a ++ [s]) := if_pos ⟨hb, h.1, h.2.1⟩
  rw [this]
  have h40 : ¬ 40 < (a ++ [s]).length := by simp; omega
  simp only [if_neg h40]

theorem expand_copy {xs : List P3} {i : Int} {a : List Int} (h0 : 0 ≤ i) (h1 : i < (xs.length : Int)) {s b m : Int} (hx : xs.getD i.toNat (0, 0, 0) = (s, b, m)) (h : tokOk (s, b, m) a.length = true) (hb : ¬ b = 0) :
    s = 0 ∧ 1 ≤ b ∧ b ≤ (a.length : Int) ∧ 2 ≤ m ∧ m ≤ 9 ∧ a.length + m ≤ 40 ∧ expandFrom (xs.drop i.toNat) a = expandFrom (xs.drop (i + 1).toNat) (copyBack b m.toNat a) := by
  unfold tokOk at h
  simp only [if_neg hb, decide_eq_true_eq] at h
  refine ⟨h.1, h.2.1.1, by omega, h.2.2.1.1, h.2.2.1.2, h.2.2.2, ?_⟩
  rw [expand_step h0 h1, hx]
  have : putTok (s, b, m) a = some (copyBack b m.toNat a) := by
    unfold putTok
    rw [if_neg (fun q => hb q.1), if_pos ⟨h.1, h.2.1.1, h.2.1.2, h.2.2.1.1, h.2.2.1.2⟩]
  rw [this]
  have h40 : ¬ 40 < (copyBack b m.toNat a).length := by rw [copyBack_len]; omega
  simp only [if_neg h40]

theorem expand_bad {xs : List P3} {i : Int} {a : List Int} (h0 : 0 ≤ i) (h1 : i < (xs.length : Int)) {s b m : Int} (hx : xs.getD i.toNat (0, 0, 0) = (s, b, m)) (ha : a.length ≤ 40) (h : tokOk (s, b, m) a.length = false) : expandFrom (xs.drop i.toNat) a = none := by
  rw [expand_step h0 h1, hx]
  unfold tokOk at h
  unfold putTok
  by_cases hb : b = 0
  · simp only [if_pos hb, decide_eq_false_iff_not] at h
    by_cases q : b = 0 ∧ m = 0 ∧ 0 ≤ s ∧ s ≤ 7
    · simp only [if_pos q]
      have : 40 < (a ++ [s]).length := by
        by_cases h2 : (a.length : Int) < 40
        · exact absurd ⟨q.2.1, q.2.2, h2⟩ h
        · simp; omega
      simp only [if_pos this]
    · simp only [if_neg q]
      rw [if_neg (fun q2 => by omega)]
  · simp only [if_neg hb, decide_eq_false_iff_not] at h
    simp only [if_neg (show ¬ (b = 0 ∧ m = 0 ∧ 0 ≤ s ∧ s ≤ 7) from fun q => hb q.1)]
    by_cases q : s = 0 ∧ 1 ≤ b ∧ b ≤ min 16 (a.length : Int) ∧ 2 ≤ m ∧ m ≤ 9
    · simp only [if_pos q]
      have : 40 < (copyBack b m.toNat a).length := by
        rw [copyBack_len]
        by_cases h2 : (a.length : Int) + m ≤ 40
        · exact absurd ⟨q.1, ⟨q.2.1, q.2.2.1⟩, q.2.2.2, h2⟩ h
        · omega
      simp only [if_pos this]
    · simp only [if_neg q]

theorem expand_len : ∀ {xs : List P3} {a r : List Int}, expandFrom xs a = some r → a.length ≤ 40 → r.length ≤ 40
  | [], a, r, h, ha => by rw [expandFrom] at h; cases h; exact ha
  | x :: xs, a, r, h, ha => by
    rw [expandFrom] at h
    split at h
    · cases h
    · split at h
      · cases h
      · exact expand_len h (by omega)

theorem expandD_len (xs : List P3) : (((expand xs).getD []).length : Int) ≤ 40 := by
  cases h : expand xs with
  | none => simp
  | some r => have := expand_len h (by simp); simp; omega

theorem cost_step {xs : List P3} {i : Int} (h0 : 0 ≤ i) (h1 : i < (xs.length : Int)) : costOf (xs.drop i.toNat) = (if (xs.getD i.toNat (0, 0, 0)).2.2 = 0 then 4 else 8) + costOf (xs.drop (i + 1).toNat) := by
  rw [drop_lt (0, 0, 0) h0 h1, costOf]

theorem cost_end {xs : List P3} {i : Int} (h : ¬ i < (xs.length : Int)) : costOf (xs.drop i.toNat) = 0 := by rw [drop_ge h, costOf]

theorem cost'_step {xs : List P3} {i : Int} (h0 : 0 ≤ i) (h1 : i < (xs.length : Int)) : costOf' (xs.drop i.toNat) = (if (xs.getD i.toNat (0, 0, 0)).2.1 = 0 then 4 else 8) + costOf' (xs.drop (i + 1).toNat) := by
  rw [drop_lt (0, 0, 0) h0 h1, costOf']

theorem cost'_end {xs : List P3} {i : Int} (h : ¬ i < (xs.length : Int)) : costOf' (xs.drop i.toNat) = 0 := by rw [drop_ge h, costOf']

theorem cost_bd : ∀ (xs : List P3), 0 ≤ costOf xs ∧ costOf xs ≤ 8 * xs.length
  | [] => by simp [costOf]
  | x :: xs => by have := cost_bd xs; simp only [costOf, List.length_cons]; split <;> omega

theorem cost'_bd : ∀ (xs : List P3), 0 ≤ costOf' xs ∧ costOf' xs ≤ 8 * xs.length
  | [] => by simp [costOf']
  | x :: xs => by have := cost'_bd xs; simp only [costOf', List.length_cons]; split <;> omega

/-- Tokens that are symbols or matches. -/
def tidy (xs : List P3) : Prop := ∀ x ∈ xs, (x.2.1 = 0 ↔ x.2.2 = 0)

theorem cost_eq : ∀ {xs : List P3}, tidy xs → costOf' xs = costOf xs
  | [], _ => rfl
  | x :: xs, h => by
    have h1 := h x (List.mem_cons_self ..)
    have h2 := cost_eq (xs := xs) (fun y hy => h y (List.mem_cons_of_mem _ hy))
    simp only [costOf, costOf', h2]
    by_cases hb : x.2.1 = 0
    · rw [if_pos hb, if_pos (h1.1 hb)]
    · rw [if_neg hb, if_neg (fun q => hb (h1.2 q))]

theorem greedy_tidy (l : List Int) : ∀ (n : Nat) (a : Int), 0 ≤ a → (l.length : Int) - a ≤ n → tidy (greedy l a)
  | 0, a, h0, h => by rw [greedy_end (by omega)]; intro x hx; cases hx
  | n + 1, a, h0, h => by
    by_cases hl : a < (l.length : Int)
    · rw [greedy_step h0 hl]
      obtain ⟨q1, q2, q3, q4⟩ := tokAt_ok l h0 hl
      intro x hx
      rcases List.mem_cons.1 hx with rfl | hx
      · by_cases hz : (tokAt l a).2.2 = 0
        · rw [q3 hz] <;> simp
        · have := q4 hz
          omega
      · exact greedy_tidy l n _ (by omega) (by omega) x hx
    · rw [greedy_end hl]; intro x hx; cases hx

theorem greedyD_tidy (l : List Int) : tidy (greedyD l) := by
  unfold greedyD
  split
  · exact greedy_tidy l l.length 0 (by omega) (by omega)
  · intro x hx; cases hx

/-- A preface and a list are valid, also together. -/
def prefOk (p l : List Int) : Bool := decide (p.length ≤ 16) && LV p && LV (p ++ l)

def prefD (p l : List Int) : List P3 := if prefOk p l = true then greedy (p ++ l) p.length else []

theorem prefOk_iff {p l : List Int} : prefOk p l = true ↔ p.length ≤ 16 ∧ LV p = true ∧ LV (p ++ l) = true := by
  simp [prefOk, and_assoc]

theorem LV_left {p l : List Int} (h : LV (p ++ l) = true) : LV p = true := by
  have h1 := LV_len h
  have h2 := LV_in h
  exact LV_iff.2 ⟨by simp at h1; omega, fun n hn => h2 n (List.mem_append_left _ hn)⟩

theorem LV_right {p l : List Int} (h : LV (p ++ l) = true) : LV l = true := by
  have h1 := LV_len h
  have h2 := LV_in h
  exact LV_iff.2 ⟨by simp at h1; omega, fun n hn => h2 n (List.mem_append_right _ hn)⟩

theorem prefD_len (p l : List Int) : ((prefD p l).length : Int) ≤ (l.length : Int) ∧ ((prefD p l).length : Int) ≤ 40 := by
  unfold prefD
  split
  · rename_i h
    have h' := prefOk_iff.1 h
    have := greedy_len (p ++ l) (p ++ l).length p.length (by omega) (by simp; omega) (by omega)
    have := LV_len h'.2.2
    simp at this
    simp at *
    omega
  · simp

theorem prefD_tidy (p l : List Int) : tidy (prefD p l) := by
  unfold prefD
  split
  · exact greedy_tidy (p ++ l) (p ++ l).length p.length (by omega) (by omega)
  · intro x hx; cases hx

/-- What tokens behind a preface give. -/
def pexpD (p : List Int) (ts : List P3) : Option (List Int) := if p.length ≤ 16 ∧ LV p = true then (expandFrom ts p).map fun r => r.drop p.length else none

theorem expand_syms : ∀ (q acc : List Int) (ts : List P3), (∀ x ∈ q, 0 ≤ x ∧ x ≤ 7) → acc.length + q.length ≤ 40 → expandFrom ((q.map fun s => (s, 0, 0)) ++ ts) acc = expandFrom ts (acc ++ q)
  | [], acc, ts, _, _ => by simp
  | s :: q, acc, ts, hx, hl => by
    rw [List.map_cons, List.cons_append, expandFrom]
    have hp : putTok (s, 0, 0) acc = some (acc ++ [s]) := if_pos ⟨rfl, rfl, hx s (List.mem_cons_self ..)⟩
    rw [hp]
    simp only [List.length_cons] at hl
    have h40 : ¬ 40 < (acc ++ [s]).length := by simp; omega
    simp only [if_neg h40]
    rw [expand_syms q (acc ++ [s]) ts (fun x hq => hx x (List.mem_cons_of_mem _ hq)) (by simp; omega)]
    simp

theorem expand_pref {p : List Int} {ts : List P3} (h : p.length ≤ 16 ∧ LV p = true) : expand ((p.map fun s => (s, 0, 0)) ++ ts) = expandFrom ts p := by
  unfold expand
  rw [expand_syms p [] ts (LV_in h.2) (by simp; omega)]
  simp

theorem pexpD_len (p : List Int) (ts : List P3) : (((pexpD p ts).getD []).length : Int) ≤ 40 := by
  unfold pexpD
  split
  · rename_i hp
    cases h : expandFrom ts p with
    | none => simp
    | some r => have := expand_len h (by omega); simp; omega
  · simp

def gainD (p l : List Int) : Int := if prefOk p l = true then costOf (greedyD l) - costOf (prefD p l) else 0

end Go.Mx

/-
  M5: laws of prefaces.
-/
namespace Go.Mx

theorem copyBack_pre (b : Int) : ∀ (n : Nat) (a : List Int), ∃ s, copyBack b n a = a ++ s
  | 0, a => ⟨[], by simp [copyBack]⟩
  | n + 1, a => by
    obtain ⟨s, hs⟩ := copyBack_pre b n (a ++ [a.getD ((a.length : Int) - b).toNat 0])
    exact ⟨_, by rw [copyBack, hs, List.append_assoc]⟩

theorem putTok_pre {x : P3} {a a' : List Int} (h : putTok x a = some a') : ∃ s, a' = a ++ s := by
  unfold putTok at h
  split at h
  · cases h; exact ⟨_, rfl⟩
  · split at h
    · cases h; exact copyBack_pre _ _ _
    · cases h

/-- What is expanded begins with what was there. -/
theorem expand_pre : ∀ {xs : List P3} {a r : List Int}, expandFrom xs a = some r → ∃ s, r = a ++ s
  | [], a, r, h => by rw [expandFrom] at h; cases h; exact ⟨[], by simp⟩
  | x :: xs, a, r, h => by
    rw [expandFrom] at h
    split at h
    · cases h
    · rename_i a' ha
      split at h
      · cases h
      · obtain ⟨s, rfl⟩ := putTok_pre ha
        obtain ⟨s', rfl⟩ := expand_pre h
        exact ⟨s ++ s', by simp⟩

/-- Copied symbols are those of the list. -/
theorem copyBack_run {L : List Int} {b : Int} (hb : 1 ≤ b) : ∀ (n k : Nat) (a : Int), b ≤ a → (n : Int) ≤ cpk k (L.drop a.toNat) (L.drop (a - b).toNat) → copyBack b n (L.take a.toNat) = L.take (a.toNat + n)
  | 0, k, a, h, hc => by simp [copyBack]
  | n + 1, k, a, h, hc => by
    have hl : a < (L.length : Int) := by
      by_cases q : a < (L.length : Int)
      · exact q
      · rw [cpk_end q] at hc; omega
    cases k with
    | zero => rw [cpk_zero] at hc; omega
    | succ k =>
      rw [cpk_step (by omega) hl (by omega) (by omega)] at hc
      split at hc
      · rename_i he
        rw [show a - b + 1 = a + 1 - b by omega] at hc
        have := copyBack_run (L := L) hb n k (a + 1) (by omega) (by omega)
        have ht := len_take (l := L) (show 0 ≤ a by omega) (by omega)
        have hg : (L.take a.toNat).getD (((L.take a.toNat).length : Int) - b).toNat 0 = L.getD a.toNat 0 := by
          rw [ht, he]
          have : (a - b).toNat < a.toNat := by omega
          simp [List.getD_eq_getElem?_getD, List.getElem?_take, this]
        rw [copyBack, hg, ← take_lt 0 (by omega) hl, this]
        congr 1; omega
      · omega

theorem putTok_run {L : List Int} (hv : LV L = true) {a : Int} (h0 : 0 ≤ a) (h1 : a < (L.length : Int)) : putTok (tokAt L a) (L.take a.toNat) = some (L.take (a + max (tokAt L a).2.2 1).toNat) := by
  obtain ⟨q1, q2, q3, q4⟩ := tokAt_ok L h0 h1
  have ht := len_take (l := L) h0 (by omega)
  by_cases hz : (tokAt L a).2.2 = 0
  · rw [q3 hz]
    have hg := LV_in hv (L.getD a.toNat 0) (by
      have : a.toNat < L.length := by omega
      simp [List.getD_eq_getElem?_getD, this])
    have e : (a + max (L.getD a.toNat 0, (0 : Int), (0 : Int)).2.2 1).toNat = (a + 1).toNat := by
      have : max (0 : Int) 1 = 1 := by omega
      simp [this]
    rw [e, take_lt 0 h0 h1]
    exact if_pos ⟨rfl, rfl, hg⟩
  · obtain ⟨p1, p2, p3, p4, p5, p6⟩ := q4 hz
    unfold putTok
    rw [if_neg (by omega), if_pos (by omega)]
    have := copyBack_run (L := L) p2 (tokAt L a).2.2.toNat 9 a (by omega) (by have := p6; unfold mlong at this; omega)
    rw [this]
    congr 2; omega

/-- Greedy tokens lead back to the list. -/
theorem greedy_back {L : List Int} (hv : LV L = true) : ∀ (n : Nat) (a : Int), 0 ≤ a → a ≤ (L.length : Int) → (L.length : Int) - a ≤ n → expandFrom (greedy L a) (L.take a.toNat) = some L
  | 0, a, h0, h1, h => by rw [greedy_end (by omega), expandFrom, take_ge (by omega)]
  | n + 1, a, h0, h1, h => by
    by_cases hl : a < (L.length : Int)
    · rw [greedy_step h0 hl, expandFrom, putTok_run hv h0 hl]
      obtain ⟨q1, q2, q3, q4⟩ := tokAt_ok L h0 hl
      have hlen := LV_len hv
      have ht := len_take (l := L) (i := a + max (tokAt L a).2.2 1) (by omega) q2
      have h40 : ¬ 40 < (L.take (a + max (tokAt L a).2.2 1).toNat).length := by omega
      simp only [if_neg h40]
      exact greedy_back hv n _ (by omega) (by omega) (by omega)
    · rw [greedy_end hl, expandFrom, take_ge hl]

theorem greedyD_back {l : List Int} (hv : LV l = true) : expand (greedyD l) = some l := by
  have := greedy_back hv l.length 0 (by omega) (by omega) (by omega)
  unfold greedyD expand
  rw [if_pos hv]
  simpa using this

theorem prefOk_nil {p : List Int} : prefOk p [] = (decide (p.length ≤ 16) && LV p) := by
  simp [prefOk, Bool.and_assoc]

theorem pref_cond {p : List Int} : (decide (p.length ≤ 16) && LV p) = true ↔ p.length ≤ 16 ∧ LV p = true := by simp

theorem pexpD_no {p : List Int} {ts : List P3} (h : ¬ (decide (p.length ≤ 16) && LV p) = true) : pexpD p ts = none := if_neg (fun q => h (pref_cond.2 q))

theorem pexpD_yes {p : List Int} {ts : List P3} (h : (decide (p.length ≤ 16) && LV p) = true) : pexpD p ts = (expand ((p.map fun s => (s, 0, 0)) ++ ts)).map fun r => r.drop p.length := by
  have h' := pref_cond.1 h
  rw [expand_pref h']
  exact if_pos h'

/-- What a preface and tokens give lies behind the preface. -/
theorem pexpD_all {p : List Int} {ts : List P3} {r : List Int} (h : pexpD p ts = some r) : expand ((p.map fun s => (s, 0, 0)) ++ ts) = some (p ++ r) := by
  unfold pexpD at h
  split at h
  · rename_i hp
    rw [expand_pref hp]
    cases he : expandFrom ts p with
    | none => rw [he] at h; cases h
    | some q =>
      rw [he] at h
      obtain ⟨s, rfl⟩ := expand_pre he
      simp at h
      rw [h]
  · cases h

theorem pexp_len {p : List Int} {ts : List P3} {r : List Int} (hp : p.length ≤ 16 ∧ LV p = true) (h : expand ((p.map fun s => (s, 0, 0)) ++ ts) = some r) : p.length ≤ r.length := by
  rw [expand_pref hp] at h
  obtain ⟨s, rfl⟩ := expand_pre h
  simp

/-- A preface is undone. -/
theorem pref_back {p l : List Int} (h : prefOk p l = true) : pexpD p (prefD p l) = some l := by
  obtain ⟨h1, h2, h3⟩ := prefOk_iff.1 h
  have := greedy_back h3 (p ++ l).length p.length (by omega) (by simp; omega) (by omega)
  rw [show ((p.length : Int).toNat) = p.length by omega, List.take_left] at this
  unfold pexpD prefD
  rw [if_pos ⟨h1, h2⟩, if_pos h, this]
  simp

theorem prefD_nil (l : List Int) : prefD [] l = greedyD l := by
  have : prefOk [] l = LV l := by
    have h : LV ([] : List Int) = true := rfl
    unfold prefOk
    rw [h]; simp
  unfold prefD greedyD
  rw [this]; rfl

theorem gainD_nil (l : List Int) : gainD [] l = 0 := by
  unfold gainD
  rw [prefD_nil]
  split <;> omega

theorem pexpD_nil (ts : List P3) : pexpD [] ts = expand ts := by
  unfold pexpD expand
  rw [if_pos ⟨by simp, rfl⟩]
  cases expandFrom ts [] <;> simp

/-- Tokens that are symbols or matches, by their place. -/
def tidy2 (xs : List P3) : Prop := ∀ x ∈ xs, (0 < x.2.1 ↔ ¬ x.2.2 = 0)

theorem greedy_tidy2 (l : List Int) : ∀ (n : Nat) (a : Int), 0 ≤ a → (l.length : Int) - a ≤ n → tidy2 (greedy l a)
  | 0, a, h0, h => by rw [greedy_end (by omega)]; intro x hx; cases hx
  | n + 1, a, h0, h => by
    by_cases hl : a < (l.length : Int)
    · rw [greedy_step h0 hl]
      obtain ⟨q1, q2, q3, q4⟩ := tokAt_ok l h0 hl
      intro x hx
      rcases List.mem_cons.1 hx with rfl | hx
      · by_cases hz : (tokAt l a).2.2 = 0
        · rw [q3 hz] <;> simp
        · have := q4 hz
          omega
      · exact greedy_tidy2 l n _ (by omega) (by omega) x hx
    · rw [greedy_end hl]; intro x hx; cases hx

theorem prefD_tidy2 (p l : List Int) : tidy2 (prefD p l) := by
  unfold prefD
  split
  · exact greedy_tidy2 (p ++ l) (p ++ l).length p.length (by omega) (by omega)
  · intro x hx; cases hx

theorem tidy2_at {xs : List P3} (h : tidy2 xs) {i : Int} (h0 : 0 ≤ i) (h1 : i < (xs.length : Int)) : 0 < (xs.getD i.toNat (0, 0, 0)).2.1 ↔ ¬ (xs.getD i.toNat (0, 0, 0)).2.2 = 0 := by
  have : i.toNat < xs.length := by omega
  exact h _ (by simp [List.getD_eq_getElem?_getD, this])

/-- The best match is as long as any. -/
theorem mfrom_max {l : List Int} {a : Int} : ∀ (n : Nat) (k : Int) (b : P3), b.2.2 ≤ (mfrom l a n k b).2.2 ∧ ∀ g, k ≤ g → g < k + n → 2 ≤ mlong l a g → mlong l a g ≤ (mfrom l a n k b).2.2
  | 0, k, b => ⟨by simp [mfrom], fun g h0 h1 => by omega⟩
  | n + 1, k, b => by
    rw [mfrom_step]
    obtain ⟨q1, q2⟩ := mfrom_max (l := l) (a := a) n (k + 1) (if 2 ≤ mlong l a k ∧ b.2.2 < mlong l a k then (0, k, mlong l a k) else b)
    generalize mfrom l a n (k + 1) (if 2 ≤ mlong l a k ∧ b.2.2 < mlong l a k then (0, k, mlong l a k) else b) = r at *
    have hk : b.2.2 ≤ r.2.2 ∧ (2 ≤ mlong l a k → mlong l a k ≤ r.2.2) := by
      split at q1
      · rename_i h; simp only at q1; exact ⟨by omega, fun _ => q1⟩
      · rename_i h; exact ⟨q1, fun h2 => by omega⟩
    refine ⟨hk.1, fun g h0 h1 h2 => ?_⟩
    by_cases e : g = k
    · subst e; exact hk.2 h2
    · exact q2 g (by omega) (by omega) h2

theorem cpk_self : ∀ (k : Nat) (a b : List Int), ((min k a.length : Nat) : Int) ≤ cpk k a (a ++ b)
  | 0, a, b => by rw [cpk_zero]; simp
  | k + 1, [], b => by simp [cpk_nonneg]
  | k + 1, x :: a, b => by
    have := cpk_self k a b
    rw [List.cons_append, cpk, if_pos rfl]
    simp only [List.length_cons]
    omega

/-- A list that is its own preface is one match. -/
theorem pref_self {l : List Int} (hv : LV l = true) (h2 : 2 ≤ l.length) (h9 : l.length ≤ 9) : ∃ x : P3, prefD l l = [x] ∧ x.2.2 = (l.length : Int) := by
  have hv2 : LV (l ++ l) = true := LV_iff.2 ⟨by simp; omega, fun n hn => by rcases List.mem_append.1 hn with q | q <;> exact LV_in hv n q⟩
  have hok : prefOk l l = true := prefOk_iff.2 ⟨by omega, hv, hv2⟩
  have hlen : ((l ++ l).length : Int) = l.length + l.length := by simp
  have hm : (l.length : Int) ≤ mlong (l ++ l) l.length l.length := by
    unfold mlong
    have := cpk_self 9 l l
    rw [show ((l.length : Int)).toNat = l.length by omega, show ((l.length : Int) - l.length).toNat = 0 by omega, List.drop_left, List.drop_zero]
    omega
  have hmax := (mfrom_max (l := l ++ l) (a := (l.length : Int)) (min 16 (l.length : Int)).toNat 1 (0, 0, 0)).2 l.length (by omega) (by omega) (by omega)
  have hat : (l.length : Int) ≤ (matchAt (l ++ l) l.length).2.2 := by
    have : (l.length : Int) ≤ (mfrom (l ++ l) l.length (min 16 (l.length : Int)).toNat 1 (0, 0, 0)).2.2 := by omega
    exact this
  have ht : tokAt (l ++ l) l.length = matchAt (l ++ l) l.length := if_pos (by omega)
  obtain ⟨q1, q2, q3, q4⟩ := tokAt_ok (l ++ l) (a := l.length) (by omega) (by omega)
  refine ⟨tokAt (l ++ l) l.length, ?_, by rw [ht] at *; omega⟩
  unfold prefD
  rw [if_pos hok, greedy_step (by omega) (by omega), greedy_end (by rw [ht] at *; omega)]

end Go.Mx

/-
  M6: entries.
-/
namespace Go.Mx

abbrev En := Int × List Int

def sumIn : List En → Int
  | [] => 0
  | x :: xs => (x.2.length : Int) + sumIn xs

/-- How many numbers entries have, with one for each. -/
def szE (l : List En) : Int := l.length + sumIn l

/-- Lists that are no longer than a list can be. -/
def Ez (l : List En) : Prop := ∀ x ∈ l, (((x.2 : List Int).length : Nat) : Int) ≤ 9223372036854775807

/-- The first entries' lists of these are valid, the names rise behind p. -/
def entFrom : Option Int → List En → Bool
  | _, [] => true
  | p, x :: xs => decide (1 ≤ x.1 ∧ x.1 ≤ 20) && LV x.2 && (match p with | none => true | some n => decide (n < x.1)) && entFrom (some x.1) xs

def entOk (l : List En) : Bool := entFrom none l && decide (l.length ≤ 5)

theorem sumIn_nonneg : ∀ (l : List En), 0 ≤ sumIn l
  | [] => by simp [sumIn]
  | x :: xs => by have := sumIn_nonneg xs; simp only [sumIn]; omega

theorem sumIn_append : ∀ (a b : List En), sumIn (a ++ b) = sumIn a + sumIn b
  | [], b => by simp [sumIn]
  | x :: a, b => by simp only [List.cons_append, sumIn, sumIn_append a b]; omega

theorem szE_append (a b : List En) : szE (a ++ b) = szE a + szE b := by simp only [szE, sumIn_append, List.length_append]; omega

theorem sumIn_step {l : List En} {i : Int} (h0 : 0 ≤ i) (h1 : i < (l.length : Int)) : sumIn (l.drop i.toNat) = ((l.getD i.toNat (0, [])).2.length : Int) + sumIn (l.drop (i + 1).toNat) := by
  rw [drop_lt (0, []) h0 h1, sumIn]

theorem sumIn_end {l : List En} {i : Int} (h : ¬ i < (l.length : Int)) : sumIn (l.drop i.toNat) = 0 := by rw [drop_ge h, sumIn]

theorem sumIn_mem : ∀ {l : List En} {x : En}, x ∈ l → (x.2.length : Int) ≤ sumIn l
  | y :: l, x, h => by
    have := sumIn_nonneg l
    rcases List.mem_cons.1 h with rfl | h
    · simp only [sumIn]; omega
    · have := sumIn_mem h; simp only [sumIn]; omega

theorem ent_len {l : List En} {i : Int} (h0 : 0 ≤ i) (h1 : i < (l.length : Int)) : ((l.getD i.toNat (0, [])).2.length : Int) ≤ szE l := by
  have : i.toNat < l.length := by omega
  have := sumIn_mem (l := l) (x := l.getD i.toNat (0, [])) (by simp [List.getD_eq_getElem?_getD, this])
  unfold szE
  omega

theorem ent_Ez {l : List En} (h : Ez l) {i : Int} (h0 : 0 ≤ i) (h1 : i < (l.length : Int)) : ((l.getD i.toNat (0, [])).2.length : Int) ≤ 9223372036854775807 := by
  have : i.toNat < l.length := by omega
  exact h _ (by simp [List.getD_eq_getElem?_getD, this])

/-- The name before a place. -/
def prevOf (l : List En) (i : Int) : Option Int := if 0 < i then some (l.getD (i - 1).toNat (0, [])).1 else none

theorem ent_step {l : List En} {i : Int} (h0 : 0 ≤ i) (h1 : i < (l.length : Int)) : entFrom (prevOf l i) (l.drop i.toNat) =
    (decide (1 ≤ (l.getD i.toNat (0, [])).1 ∧ (l.getD i.toNat (0, [])).1 ≤ 20) && LV (l.getD i.toNat (0, [])).2 && (if 0 < i then decide ((l.getD (i - 1).toNat (0, [])).1 < (l.getD i.toNat (0, [])).1) else true) && entFrom (prevOf l (i + 1)) (l.drop (i + 1).toNat)) := by
  have e : prevOf l (i + 1) = some (l.getD i.toNat (0, [])).1 := by
    unfold prevOf
    rw [if_pos (by omega), show i + 1 - 1 = i by omega]
  rw [drop_lt (0, []) h0 h1, entFrom.eq_def, e]
  simp only
  congr 2
  unfold prevOf
  by_cases h : 0 < i
  · simp only [if_pos h]
  · simp only [if_neg h]

theorem ent_end {l : List En} {i : Int} (h : ¬ i < (l.length : Int)) : entFrom (prevOf l i) (l.drop i.toNat) = true := by
  rw [drop_ge h, entFrom.eq_def]

theorem ent_all {l : List En} {x : En} : ∀ {p : Option Int}, entFrom p l = true → x ∈ l → LV x.2 = true ∧ 1 ≤ x.1 ∧ x.1 ≤ 20 := by
  induction l with
  | nil => intro p h hx; cases hx
  | cons y l ih =>
    intro p h hx
    simp only [entFrom, Bool.and_eq_true, decide_eq_true_eq] at h
    rcases List.mem_cons.1 hx with rfl | hx
    · exact ⟨h.1.1.2, h.1.1.1⟩
    · exact ih h.2 hx

theorem entFrom_weak {p q : Option Int} {l : List En} (h : entFrom p l = true) (hq : ∀ n, q = some n → ∃ m, p = some m ∧ n ≤ m) : entFrom q l = true := by
  cases l with
  | nil => rfl
  | cons x l =>
    simp only [entFrom, Bool.and_eq_true, decide_eq_true_eq] at h ⊢
    refine ⟨⟨h.1.1, ?_⟩, h.2⟩
    cases q with
    | none => rfl
    | some n =>
      obtain ⟨m, rfl, hm⟩ := hq n rfl
      have := h.1.2
      simp only [decide_eq_true_eq] at this ⊢
      omega

theorem entFrom_app : ∀ {a b : List En} {p : Option Int}, entFrom p (a ++ b) = true → entFrom p a = true ∧ ∃ q, entFrom q b = true ∧ (∀ x, a.getLast? = some x → q = some x.1) ∧ (a = [] → q = p)
  | [], b, p, h => ⟨rfl, p, h, by simp, fun _ => rfl⟩
  | x :: a, b, p, h => by
    simp only [List.cons_append, entFrom, Bool.and_eq_true, decide_eq_true_eq] at h
    obtain ⟨q1, q, q2, q3, q4⟩ := entFrom_app h.2
    refine ⟨by simp only [entFrom, Bool.and_eq_true, decide_eq_true_eq]; exact ⟨h.1, q1⟩, q, q2, fun y hy => ?_, by simp⟩
    cases a with
    | nil => simp at hy; subst hy; exact q4 rfl
    | cons z a => rw [List.getLast?_cons_cons] at hy; exact q3 y hy

/-- Entries may be missing. -/
theorem entFrom_without : ∀ {a b : List En} {x : En} {p : Option Int}, entFrom p (a ++ x :: b) = true → entFrom p (a ++ b) = true
  | [], b, x, p, h => by
    simp only [List.nil_append, entFrom, Bool.and_eq_true, decide_eq_true_eq] at h ⊢
    refine entFrom_weak h.2 fun n hn => ?_
    subst hn
    have := h.1.2
    simp only [decide_eq_true_eq] at this
    exact ⟨x.1, rfl, by omega⟩
  | y :: a, b, x, p, h => by
    simp only [List.cons_append, entFrom, Bool.and_eq_true, decide_eq_true_eq] at h ⊢
    exact ⟨h.1, entFrom_without h.2⟩

/-- Entries are not twice. -/
theorem entFrom_twice : ∀ {a b : List En} {x : En} {p : Option Int}, entFrom p (a ++ x :: x :: b) = false
  | [], b, x, p => by
    simp only [List.nil_append, entFrom]
    have : decide (x.1 < x.1) = false := by simp
    simp [this]
  | y :: a, b, x, p => by
    simp only [List.cons_append, entFrom]
    rw [entFrom_twice (a := a)]; simp

theorem entOk_iff {l : List En} : entOk l = true ↔ entFrom none l = true ∧ l.length ≤ 5 := by simp [entOk]

theorem ent_part {l : List En} {k : Int} (h : entOk l = true) (h0 : 0 ≤ k) (h1 : k < (l.length : Int)) :
    entOk (l.take k.toNat ++ l.drop (k + 1).toNat) = true ∧ entOk (l.take (k + 1).toNat ++ l.drop k.toNat) = false := by
  obtain ⟨q1, q2⟩ := entOk_iff.1 h
  have e : l = l.take k.toNat ++ (l.getD k.toNat (0, [])) :: l.drop (k + 1).toNat := by
    rw [← drop_lt (0, []) h0 h1, List.take_append_drop]
  constructor
  · refine entOk_iff.2 ⟨entFrom_without (x := l.getD k.toNat (0, [])) (by rw [← e]; exact q1), ?_⟩
    simp; omega
  · unfold entOk
    rw [take_lt (0, []) h0 h1, drop_lt (0, []) h0 h1, List.append_assoc, List.cons_append, List.nil_append, entFrom_twice]
    rfl

theorem szE_nonneg (l : List En) : 0 ≤ szE l := by have := sumIn_nonneg l; unfold szE; omega

theorem szE_take (l : List En) (i : Nat) : szE (l.take i) ≤ szE l := by
  have h := szE_append (l.take i) (l.drop i)
  rw [List.take_append_drop] at h
  have := szE_nonneg (l.drop i)
  omega

theorem szE_drop (l : List En) (i : Nat) : szE (l.drop i) ≤ szE l := by
  have h := szE_append (l.take i) (l.drop i)
  rw [List.take_append_drop] at h
  have := szE_nonneg (l.take i)
  omega

theorem szE_snoc (o : List En) (n : Int) (x : List Int) : szE (o ++ [(n, x)]) = szE o + 1 + x.length := by
  rw [szE_append]; simp [szE, sumIn]; omega

theorem sumIn_set : ∀ (o : List En) (i : Nat) (n : Int), sumIn (o.set i (n, (o.getD i (0, [])).2)) = sumIn o
  | [], i, n => by simp
  | x :: o, 0, n => by simp [sumIn]
  | x :: o, i + 1, n => by
    have := sumIn_set o i n
    simp only [List.getD_cons_succ, List.set_cons_succ, sumIn, this]

theorem szE_set (o : List En) (i : Nat) (n : Int) : szE (o.set i (n, (o.getD i (0, [])).2)) = szE o := by
  unfold szE; rw [sumIn_set]; simp

end Go.Mx

/-
  MX: laws that name the executor's own functions.
-/
namespace Go.Mx

theorem xor_nonneg {a b : Int} (ha : 0 ≤ a) (hb : 0 ≤ b) (ha' : a < 4611686018427387904) (hb' : b < 4611686018427387904) : 0 ≤ Go.Ax.bitI .xor a b ∧ Go.Ax.bitI .xor a b < 4611686018427387904 := by
  have h1 : (BitVec.ofInt 64 a).toNat = a.toNat := by
    rw [BitVec.toNat_ofInt]; omega
  have h2 : (BitVec.ofInt 64 b).toNat = b.toNat := by
    rw [BitVec.toNat_ofInt]; omega
  have h3 : a.toNat ^^^ b.toNat < 2 ^ 62 := Nat.xor_lt_two_pow (by omega) (by omega)
  have e : Go.Ax.bitI .xor a b = ((a.toNat ^^^ b.toNat : Nat) : Int) := by
    show Go.IntKind.i64.wrap _ = _
    rw [BitVec.toNat_xor, h1, h2]
    exact Go.Ax.i64_in ⟨by omega, by omega⟩
  rw [e]
  omega

end Go.Mx
