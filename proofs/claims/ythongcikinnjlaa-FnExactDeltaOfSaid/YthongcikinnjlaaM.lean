/-
  Plain definitions and laws.
-/
import Derived.Test.YthongcikinnjlaaAx2
set_option linter.unusedVariables false
set_option linter.unusedSimpArgs false
set_option linter.unusedSectionVars false

/-
  M0: plain definitions and small laws on lists of integers.
-/
namespace Go.Mx

theorem drop_lt {α : Type} {l : List α} {i : Int} (d : α) (h0 : 0 ≤ i) (h : i < (l.length : Int)) : l.drop i.toNat = l.getD i.toNat d :: l.drop (i + 1).toNat := by
  have h1 : i.toNat < l.length := by omega
  rw [List.drop_eq_getElem_cons h1]
  have h2 : (i + 1).toNat = i.toNat + 1 := by omega
  rw [h2]
  simp [List.getD_eq_getElem?_getD, h1]

theorem drop_ge {α : Type} {l : List α} {i : Int} (h : ¬ i < (l.length : Int)) : l.drop i.toNat = [] :=
  List.drop_eq_nil_of_le (by omega)

theorem take_lt {α : Type} {l : List α} {i : Int} (d : α) (h0 : 0 ≤ i) (h : i < (l.length : Int)) : l.take (i + 1).toNat = l.take i.toNat ++ [l.getD i.toNat d] := by
  have h1 : i.toNat < l.length := by omega
  have h2 : (i + 1).toNat = i.toNat + 1 := by omega
  rw [h2, List.take_succ_eq_append_getElem h1]
  simp [List.getD_eq_getElem?_getD, h1]

theorem take_ge {α : Type} {l : List α} {i : Int} (h : ¬ i < (l.length : Int)) : l.take i.toNat = l :=
  List.take_of_length_le (by omega)

theorem len_take {α : Type} {l : List α} {i : Int} (h0 : 0 ≤ i) (h : i ≤ (l.length : Int)) : (((l.take i.toNat).length : Nat) : Int) = i := by
  rw [List.length_take]; omega

/-- All numbers lie between two bounds. -/
def allIn (lo hi : Int) : List Int → Bool
  | [] => true
  | n :: l => decide (lo ≤ n ∧ n ≤ hi) && allIn lo hi l

theorem allIn_iff {lo hi : Int} {l : List Int} : allIn lo hi l = true ↔ ∀ n ∈ l, lo ≤ n ∧ n ≤ hi := by
  induction l with
  | nil => simp [allIn]
  | cons x l ih => simp [allIn, ih]

/-- A valid list. -/
def LV (l : List Int) : Bool := decide (l.length ≤ 40) && allIn 0 7 l

theorem LV_len {l : List Int} (h : LV l = true) : l.length ≤ 40 := by
  simp [LV] at h; exact h.1

theorem LV_in {l : List Int} (h : LV l = true) : ∀ n ∈ l, 0 ≤ n ∧ n ≤ 7 := by
  simp [LV] at h; exact allIn_iff.1 h.2

theorem LV_iff {l : List Int} : LV l = true ↔ l.length ≤ 40 ∧ ∀ n ∈ l, 0 ≤ n ∧ n ≤ 7 := by
  simp [LV, allIn_iff]

theorem set_at {α : Type} {A B : List α} {b v : α} {i : Int} (h : (A.length : Int) = i) : (A ++ b :: B).set i.toNat v = A ++ v :: B := by
  have : i.toNat = A.length := by omega
  rw [this]
  simp

theorem getD_at {α : Type} {A B : List α} {b d : α} {i : Int} (h : (A.length : Int) = i) : (A ++ b :: B).getD i.toNat d = b := by
  have : i.toNat = A.length := by omega
  rw [this]
  simp [List.getD_eq_getElem?_getD]

/-- Numbers in a row. -/
def marks (k : Int) : Nat → List Int
  | 0 => []
  | n + 1 => k :: marks (k + 1) n

theorem marks_len {k : Int} {n : Nat} : (marks k n).length = n := by
  induction n generalizing k with
  | zero => rfl
  | succ n ih => simp [marks, ih]

theorem marks_snoc {k : Int} {n : Nat} : marks k (n + 1) = marks k n ++ [k + n] := by
  induction n generalizing k with
  | zero => simp [marks]
  | succ n ih =>
    rw [marks, ih, marks, List.cons_append]
    congr 3
    omega

end Go.Mx

/-
  M1: plain definitions for drawing, deltas and tokens.
-/
namespace Go.Mx

/-- A record of three numbers. -/
abbrev P3 := Int × Int × Int

/-- How long two lists are equal. -/
def cp : List Int → List Int → Int
  | a :: as, b :: bs => if a = b then 1 + cp as bs else 0
  | _, _ => 0

theorem cp_nonneg (a b : List Int) : 0 ≤ cp a b := by
  induction a generalizing b with
  | nil => simp [cp]
  | cons x a ih =>
    cases b with
    | nil => simp [cp]
    | cons y b =>
      simp only [cp]
      split
      · have := ih b; omega
      · omega

theorem cp_le_left (a b : List Int) : cp a b ≤ (a.length : Int) := by
  induction a generalizing b with
  | nil => simp [cp]
  | cons x a ih =>
    cases b with
    | nil => simp [cp]; omega
    | cons y b =>
      simp only [cp, List.length_cons]
      split
      · have := ih b; omega
      · omega

theorem cp_le_right (a b : List Int) : cp a b ≤ (b.length : Int) := by
  induction a generalizing b with
  | nil => simp [cp]
  | cons x a ih =>
    cases b with
    | nil => simp [cp]
    | cons y b =>
      simp only [cp, List.length_cons]
      split
      · have := ih b; omega
      · omega

/-- The longest copy out of the rest of an old list. -/
def bestFrom (t : List Int) : List Int → Int → P3 → P3
  | [], _, b => b
  | o :: os, f, b => bestFrom t os (f + 1) (if 2 ≤ cp (o :: os) t ∧ b.2.2 < cp (o :: os) t then (0, f, cp (o :: os) t) else b)

/-- A symbol in the place of nothing. -/
def orSym (s : Int) (b : P3) : P3 := if b.2.2 = 0 then (s, 0, 0) else b

def pieceAt (old : List Int) (s : Int) (t : List Int) : P3 := orSym s (bestFrom (s :: t) old 0 (0, 0, 0))

/-- Begun with a symbol in the place of nothing: the same copy, or that symbol. -/
theorem bestFrom_sym (t : List Int) (s : Int) : ∀ (os : List Int) (f : Int) (b : P3), 0 ≤ b.2.2 → bestFrom t os f (orSym s b) = orSym s (bestFrom t os f b)
  | [], f, b, h0 => rfl
  | o :: os, f, b, h0 => by
    simp only [bestFrom]
    by_cases hn : 2 ≤ cp (o :: os) t ∧ b.2.2 < cp (o :: os) t
    · have h2 : 2 ≤ cp (o :: os) t ∧ (orSym s b).2.2 < cp (o :: os) t := by
        refine ⟨hn.1, ?_⟩
        unfold orSym
        split
        · simp; omega
        · exact hn.2
      rw [if_pos hn, if_pos h2]
      have := bestFrom_sym t s os (f + 1) (0, f, cp (o :: os) t) (by simp; omega)
      unfold orSym at this
      rw [if_neg (by simp; omega)] at this
      exact this
    · have h2 : ¬ (2 ≤ cp (o :: os) t ∧ (orSym s b).2.2 < cp (o :: os) t) := by
        intro ⟨q1, q2⟩
        refine hn ⟨q1, ?_⟩
        unfold orSym at q2
        split at q2
        · omega
        · exact q2
      rw [if_neg hn, if_neg h2]
      exact bestFrom_sym t s os (f + 1) b h0

/-- What is known of the longest copy. -/
theorem bestFrom_ok (t : List Int) (old : List Int) : ∀ (os : List Int) (f : Nat) (b : P3), old.drop f = os → f + os.length = old.length →
    (0 ≤ b.2.2 ∧ (b.2.2 = 0 ∨ (b.1 = 0 ∧ 0 ≤ b.2.1 ∧ 2 ≤ b.2.2 ∧ b.2.1 < (old.length : Int) ∧ b.2.2 = cp (old.drop b.2.1.toNat) t))) →
    (0 ≤ (bestFrom t os f b).2.2 ∧ ((bestFrom t os f b).2.2 = 0 ∨ ((bestFrom t os f b).1 = 0 ∧ 0 ≤ (bestFrom t os f b).2.1 ∧ 2 ≤ (bestFrom t os f b).2.2 ∧ (bestFrom t os f b).2.1 < (old.length : Int) ∧ (bestFrom t os f b).2.2 = cp (old.drop (bestFrom t os f b).2.1.toNat) t)))
  | [], f, b, h1, h2, h => h
  | o :: os, f, b, h1, h2, h => by
    simp only [bestFrom]
    have e : ((f : Int) + 1) = ((f + 1 : Nat) : Int) := by omega
    rw [e]
    have hl : f < old.length := by simp at h2; omega
    refine bestFrom_ok t old os (f + 1) _ ?_ (by simp at h2; omega) ?_
    · rw [List.drop_eq_getElem_cons hl] at h1
      exact (List.cons.inj h1).2
    · split
      · rename_i hn
        refine ⟨by simp; omega, .inr ⟨rfl, by simp, by simpa using hn.1, by simp; omega, by simp [h1]⟩⟩
      · exact h

/-- The pieces that lead from an old list to a new one. -/
def deltaOf (old : List Int) : List Int → List P3
  | [] => []
  | s :: t => pieceAt old s t :: deltaOf old (t.drop ((max (pieceAt old s t).2.2 1).toNat - 1))
termination_by l => l.length
decreasing_by simp; omega

/-- A piece laid behind what is there. -/
def putPiece (old : List Int) (p : P3) (a : List Int) : Option (List Int) :=
  if p.2.1 = 0 ∧ p.2.2 = 0 ∧ 0 ≤ p.1 ∧ p.1 ≤ 7 then some (a ++ [p.1])
  else if p.1 = 0 ∧ 0 ≤ p.2.1 ∧ p.2.1 ≤ (old.length : Int) ∧ 2 ≤ p.2.2 ∧ p.2.2 ≤ (old.length : Int) - p.2.1 then some (a ++ (old.take (p.2.1 + p.2.2).toNat).drop p.2.1.toNat)
  else none

def applyFrom (old : List Int) : List P3 → List Int → Option (List Int)
  | [], a => some a
  | p :: ps, a => match putPiece old p a with
    | none => none
    | some a' => if 40 < a'.length then none else applyFrom old ps a'

def deltaApply (old : List Int) (ps : List P3) : Option (List Int) := if LV old then applyFrom old ps [] else none

/-- How many symbols pieces or tokens copy. -/
def manySum : List P3 → Int
  | [] => 0
  | p :: ps => p.2.2 + manySum ps

/-- How long two lists are equal, at most k. -/
def cpk : Nat → List Int → List Int → Int
  | k + 1, a :: as, b :: bs => if a = b then 1 + cpk k as bs else 0
  | _, _, _ => 0

theorem cpk_nonneg (k : Nat) (a b : List Int) : 0 ≤ cpk k a b := by
  induction k generalizing a b with
  | zero => simp [cpk]
  | succ k ih =>
    cases a with
    | nil => simp [cpk]
    | cons x a =>
      cases b with
      | nil => simp [cpk]
      | cons y b =>
        simp only [cpk]
        split
        · have := ih a b; omega
        · omega

theorem cpk_le (k : Nat) (a b : List Int) : cpk k a b ≤ (k : Int) := by
  induction k generalizing a b with
  | zero => simp [cpk]
  | succ k ih =>
    cases a with
    | nil => simp [cpk]; omega
    | cons x a =>
      cases b with
      | nil => simp [cpk]; omega
      | cons y b =>
        simp only [cpk]
        split
        · have := ih a b; omega
        · omega

theorem cpk_le_left (k : Nat) (a b : List Int) : cpk k a b ≤ (a.length : Int) := by
  induction k generalizing a b with
  | zero => simp [cpk]
  | succ k ih =>
    cases a with
    | nil => simp [cpk]
    | cons x a =>
      cases b with
      | nil => simp [cpk]; omega
      | cons y b =>
        simp only [cpk, List.length_cons]
        split
        · have := ih a b; omega
        · omega

/-- How long a match is, some places back. -/
def mlong (l : List Int) (at_ back : Int) : Int := cpk 9 (l.drop at_.toNat) (l.drop (at_ - back).toNat)

/-- The best match among the next n places back. -/
def mfrom (l : List Int) (at_ : Int) : Nat → Int → P3 → P3
  | 0, _, b => b
  | n + 1, k, b => mfrom l at_ n (k + 1) (if 2 ≤ mlong l at_ k ∧ b.2.2 < mlong l at_ k then (0, k, mlong l at_ k) else b)

def matchAt (l : List Int) (at_ : Int) : P3 := mfrom l at_ (min 16 at_).toNat 1 (0, 0, 0)

theorem mfrom_ok (l : List Int) (at_ : Int) : ∀ (n : Nat) (k : Int) (b : P3), 1 ≤ k → k + n = min 16 at_ + 1 →
    (0 ≤ b.2.2 ∧ (b.2.2 = 0 → b = (0, 0, 0)) ∧ (b.2.2 = 0 ∨ (b.1 = 0 ∧ 1 ≤ b.2.1 ∧ b.2.1 ≤ min 16 at_ ∧ 2 ≤ b.2.2 ∧ b.2.2 = mlong l at_ b.2.1))) →
    (0 ≤ (mfrom l at_ n k b).2.2 ∧ ((mfrom l at_ n k b).2.2 = 0 → mfrom l at_ n k b = (0, 0, 0)) ∧ ((mfrom l at_ n k b).2.2 = 0 ∨ ((mfrom l at_ n k b).1 = 0 ∧ 1 ≤ (mfrom l at_ n k b).2.1 ∧ (mfrom l at_ n k b).2.1 ≤ min 16 at_ ∧ 2 ≤ (mfrom l at_ n k b).2.2 ∧ (mfrom l at_ n k b).2.2 = mlong l at_ (mfrom l at_ n k b).2.1)))
  | 0, k, b, hk, hn, h => h
  | n + 1, k, b, hk, hn, h => by
    simp only [mfrom]
    refine mfrom_ok l at_ n (k + 1) _ (by omega) (by omega) ?_
    split
    · rename_i q
      exact ⟨by simp; omega, by simp; omega, .inr ⟨rfl, by simpa using hk, by simp; omega, by simpa using q.1, rfl⟩⟩
    · exact h

theorem matchAt_ok (l : List Int) (at_ : Int) (h : 0 ≤ at_) : 0 ≤ (matchAt l at_).2.2 ∧ ((matchAt l at_).2.2 = 0 → matchAt l at_ = (0, 0, 0)) ∧ ((matchAt l at_).2.2 = 0 ∨ ((matchAt l at_).1 = 0 ∧ 1 ≤ (matchAt l at_).2.1 ∧ (matchAt l at_).2.1 ≤ min 16 at_ ∧ 2 ≤ (matchAt l at_).2.2 ∧ (matchAt l at_).2.2 = mlong l at_ (matchAt l at_).2.1)) :=
  mfrom_ok l at_ _ 1 (0, 0, 0) (by omega) (by omega) (by simp)

/-- The token at a place. -/
def tokAt (l : List Int) (at_ : Int) : P3 := if 0 < (matchAt l at_).2.2 then matchAt l at_ else (l.getD at_.toNat 0, 0, 0)

/-- Greedy tokens from a place on. -/
def greedy (l : List Int) (at_ : Int) : List P3 :=
  if h : 0 ≤ at_ ∧ at_ < (l.length : Int) then tokAt l at_ :: greedy l (at_ + max (tokAt l at_).2.2 1) else []
termination_by (l.length - at_).toNat
decreasing_by omega

/-- Symbols that are repeated from some places back. -/
def copyBack (back : Int) : Nat → List Int → List Int
  | 0, a => a
  | n + 1, a => copyBack back n (a ++ [a.getD ((a.length : Int) - back).toNat 0])

theorem copyBack_len (back : Int) : ∀ (n : Nat) (a : List Int), (copyBack back n a).length = a.length + n
  | 0, a => rfl
  | n + 1, a => by simp [copyBack, copyBack_len back n]; omega

def putTok (x : P3) (a : List Int) : Option (List Int) :=
  if x.2.1 = 0 ∧ x.2.2 = 0 ∧ 0 ≤ x.1 ∧ x.1 ≤ 7 then some (a ++ [x.1])
  else if x.1 = 0 ∧ 1 ≤ x.2.1 ∧ x.2.1 ≤ min 16 (a.length : Int) ∧ 2 ≤ x.2.2 ∧ x.2.2 ≤ 9 then some (copyBack x.2.1 x.2.2.toNat a)
  else none

def expandFrom : List P3 → List Int → Option (List Int)
  | [], a => some a
  | x :: xs, a => match putTok x a with
    | none => none
    | some a' => if 40 < a'.length then none else expandFrom xs a'

def expand (ts : List P3) : Option (List Int) := expandFrom ts []

/-- What tokens cost. -/
def costOf : List P3 → Int
  | [] => 0
  | x :: xs => (if x.2.2 = 0 then 4 else 8) + costOf xs

/-- As the reference counts it. -/
def costOf' : List P3 → Int
  | [] => 0
  | x :: xs => (if x.2.1 = 0 then 4 else 8) + costOf' xs

/-- Records with numbers in a row. -/
def marks3 (k : Int) : Nat → List P3
  | 0 => []
  | n + 1 => (k, k + 1, k + 2) :: marks3 (k + 3) n

theorem marks3_len {k : Int} {n : Nat} : (marks3 k n).length = n := by
  induction n generalizing k with
  | zero => rfl
  | succ n ih => simp [marks3, ih]

theorem marks3_snoc {k : Int} {n : Nat} : marks3 k (n + 1) = marks3 k n ++ [(k + 3 * n, k + 3 * n + 1, k + 3 * n + 2)] := by
  induction n generalizing k with
  | zero => simp [marks3]
  | succ n ih =>
    rw [marks3, ih, marks3, List.cons_append]
    have : k + 3 + 3 * (n : Int) = k + 3 * ((n + 1 : Nat) : Int) := by omega
    rw [this]

/-- Nothing found: nothing was there. -/
theorem bestFrom_zero {t : List Int} : ∀ (os : List Int) (f : Int) (b : P3), (b.2.2 = 0 → b = (0, 0, 0)) → (bestFrom t os f b).2.2 = 0 → bestFrom t os f b = (0, 0, 0)
  | [], f, b, hb, h => hb h
  | o :: os, f, b, hb, h => by
    simp only [bestFrom] at h ⊢
    refine bestFrom_zero os (f + 1) _ ?_ h
    split
    · rename_i q; intro e; simp at e; omega
    · exact hb

/-- The pieces of valid lists. -/
def deltaD (old l : List Int) : List P3 := if LV old = true ∧ LV l = true then deltaOf old l else []

theorem deltaOf_len (old : List Int) : ∀ (n : Nat) (l : List Int), l.length ≤ n → (deltaOf old l).length ≤ l.length
  | 0, [], _ => by simp [deltaOf]
  | n + 1, [], _ => by simp [deltaOf]
  | n + 1, s :: t, h => by
    rw [deltaOf]
    simp only [List.length_cons] at h ⊢
    have := deltaOf_len old n (t.drop ((max (pieceAt old s t).2.2 1).toNat - 1)) (by simp; omega)
    simp only [List.length_drop] at this
    omega

theorem deltaD_len (old l : List Int) : ((deltaD old l).length : Int) ≤ 40 := by
  unfold deltaD
  split
  · rename_i h
    have h1 := deltaOf_len old l.length l (Nat.le_refl _)
    have h2 := LV_len h.2
    omega
  · simp

/-! ### Steps -/

theorem cp_step {a b : List Int} {f g : Int} (h0 : 0 ≤ f) (h1 : f < (a.length : Int)) (h2 : 0 ≤ g) (h3 : g < (b.length : Int)) :
    cp (a.drop f.toNat) (b.drop g.toNat) = if a.getD f.toNat 0 = b.getD g.toNat 0 then 1 + cp (a.drop (f + 1).toNat) (b.drop (g + 1).toNat) else 0 := by
  rw [drop_lt 0 h0 h1, drop_lt 0 h2 h3, cp]

theorem cp_end {a b : List Int} {f g : Int} (h : ¬ f < (a.length : Int) ∨ ¬ g < (b.length : Int)) : cp (a.drop f.toNat) (b.drop g.toNat) = 0 := by
  rcases h with h | h
  · rw [drop_ge h]; rfl
  · rw [drop_ge h]; cases a.drop f.toNat <;> rfl

theorem best_step {t old : List Int} {f : Int} {b : P3} (h0 : 0 ≤ f) (h1 : f < (old.length : Int)) :
    bestFrom t (old.drop f.toNat) f b = bestFrom t (old.drop (f + 1).toNat) (f + 1) (if 2 ≤ cp (old.drop f.toNat) t ∧ b.2.2 < cp (old.drop f.toNat) t then (0, f, cp (old.drop f.toNat) t) else b) := by
  rw [drop_lt 0 h0 h1, bestFrom]

theorem best_end {t old : List Int} {f : Int} {b : P3} (h : ¬ f < (old.length : Int)) : bestFrom t (old.drop f.toNat) f b = b := by
  rw [drop_ge h, bestFrom]

theorem delta_step {old l : List Int} {a : Int} (h0 : 0 ≤ a) (h1 : a < (l.length : Int)) :
    deltaOf old (l.drop a.toNat) = pieceAt old (l.getD a.toNat 0) (l.drop (a + 1).toNat) :: deltaOf old (l.drop (a + max (pieceAt old (l.getD a.toNat 0) (l.drop (a + 1).toNat)).2.2 1).toNat) := by
  rw [drop_lt 0 h0 h1, deltaOf, List.drop_drop]
  congr 3
  omega

theorem delta_end {old l : List Int} {a : Int} (h : ¬ a < (l.length : Int)) : deltaOf old (l.drop a.toNat) = [] := by
  rw [drop_ge h, deltaOf]

/-- How far a piece reaches. -/
theorem piece_le {old l : List Int} {a : Int} (h0 : 0 ≤ a) (h1 : a < (l.length : Int)) :
    0 ≤ (pieceAt old (l.getD a.toNat 0) (l.drop (a + 1).toNat)).2.2 ∧ a + (pieceAt old (l.getD a.toNat 0) (l.drop (a + 1).toNat)).2.2 ≤ (l.length : Int) := by
  unfold pieceAt
  rw [← drop_lt 0 h0 h1]
  obtain ⟨q1, q2⟩ := bestFrom_ok (l.drop a.toNat) old old 0 (0, 0, 0) rfl (by simp) (by simp)
  generalize hb : bestFrom (l.drop a.toNat) old ((0 : Nat) : Int) (0, 0, 0) = b at *
  unfold orSym
  split
  · simp; omega
  · refine ⟨q1, ?_⟩
    rcases q2 with q2 | q2
    · omega
    · have := cp_le_right (old.drop b.2.1.toNat) (l.drop a.toNat)
      rw [← q2.2.2.2.2, List.length_drop] at this
      omega

end Go.Mx

/-
  MX: laws that name the executor's own functions.
-/
namespace Go.Mx

theorem xor_nonneg {a b : Int} (ha : 0 ≤ a) (hb : 0 ≤ b) (ha' : a < 4611686018427387904) (hb' : b < 4611686018427387904) : 0 ≤ Go.Ax.bitI .xor a b ∧ Go.Ax.bitI .xor a b < 4611686018427387904 := by
  have h1 : (BitVec.ofInt 64 a).toNat = a.toNat := by
    rw [BitVec.toNat_ofInt]; omega
  have h2 : (BitVec.ofInt 64 b).toNat = b.toNat := by
    rw [BitVec.toNat_ofInt]; omega
  have h3 : a.toNat ^^^ b.toNat < 2 ^ 62 := Nat.xor_lt_two_pow (by omega) (by omega)
  have e : Go.Ax.bitI .xor a b = ((a.toNat ^^^ b.toNat : Nat) : Int) := by
    show Go.IntKind.i64.wrap _ = _
    rw [BitVec.toNat_xor, h1, h2]
    exact Go.Ax.i64_in ⟨by omega, by omega⟩
  rw [e]
  omega

end Go.Mx
