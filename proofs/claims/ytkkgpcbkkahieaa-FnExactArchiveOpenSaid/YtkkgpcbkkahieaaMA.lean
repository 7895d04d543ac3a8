/-
  Plain definitions and laws: pieces, tokens, entries, lengths.
-/
set_option linter.unusedVariables false
set_option linter.unusedSimpArgs false
set_option linter.unusedSectionVars false

/-
  M0: plain definitions and small laws on lists of integers.
-/
namespace Go.Mx

theorem drop_lt {α : Type} {l : List α} {i : Int} (d : α) (h0 : 0 ≤ i) (h : i < (l.length : Int)) : l.drop i.toNat = l.getD i.toNat d :: l.drop (i + 1).toNat := by
  have h1 : i.toNat < l.length := by omega
  rw [List.drop_eq_getElem_cons h1]
  have h2 : (i + 1).toNat = i.toNat + 1 := by omega
  rw [h2]
  simp [List.getD_eq_getElem?_getD, h1]

theorem drop_ge {α : Type} {l : List α} {i : Int} (h : ¬ i < (l.length : Int)) : l.drop i.toNat = [] :=
  List.drop_eq_nil_of_le (by omega)

theorem take_lt {α : Type} {l : List α} {i : Int} (d : α) (h0 : 0 ≤ i) (h : i < (l.length : Int)) : l.take (i + 1).toNat = l.take i.toNat ++ [l.getD i.toNat d] := by
  have h1 : i.toNat < l.length := by omega
  have h2 : (i + 1).toNat = i.toNat + 1 := by omega
  rw [h2, List.take_succ_eq_append_getElem h1]
  simp [List.getD_eq_getElem?_getD, h1]

theorem take_ge {α : Type} {l : List α} {i : Int} (h : ¬ i < (l.length : Int)) : l.take i.toNat = l :=
  List.take_of_length_le (by omega)

theorem len_take {α : Type} {l : List α} {i : Int} (h0 : 0 ≤ i) (h : i ≤ (l.length : Int)) : (((l.take i.toNat).length : Nat) : Int) = i := by
  rw [List.length_take]; omega

/-- All numbers lie between two bounds. -/
def allIn (lo hi : Int) : List Int → Bool
  | [] => true
  | n :: l => decide (lo ≤ n ∧ n ≤ hi) && allIn lo hi l

theorem allIn_iff {lo hi : Int} {l : List Int} : allIn lo hi l = true ↔ ∀ n ∈ l, lo ≤ n ∧ n ≤ hi := by
  induction l with
  | nil => simp [allIn]
  | cons x l ih => simp [allIn, ih]

/-- A valid list. -/
def LV (l : List Int) : Bool := decide (l.length ≤ 40) && allIn 0 7 l

theorem LV_len {l : List Int} (h : LV l = true) : l.length ≤ 40 := by
  simp [LV] at h; exact h.1

theorem LV_in {l : List Int} (h : LV l = true) : ∀ n ∈ l, 0 ≤ n ∧ n ≤ 7 := by
  simp [LV] at h; exact allIn_iff.1 h.2

theorem LV_iff {l : List Int} : LV l = true ↔ l.length ≤ 40 ∧ ∀ n ∈ l, 0 ≤ n ∧ n ≤ 7 := by
  simp [LV, allIn_iff]

theorem set_at {α : Type} {A B : List α} {b v : α} {i : Int} (h : (A.length : Int) = i) : (A ++ b :: B).set i.toNat v = A ++ v :: B := by
  have : i.toNat = A.length := by omega
  rw [this]
  simp

theorem getD_at {α : Type} {A B : List α} {b d : α} {i : Int} (h : (A.length : Int) = i) : (A ++ b :: B).getD i.toNat d = b := by
  have : i.toNat = A.length := by omega
  rw [this]
  simp [List.getD_eq_getElem?_getD]

/-- Numbers in a row. -/
def marks (k : Int) : Nat → List Int
  | 0 => []
  | n + 1 => k :: marks (k + 1) n

theorem marks_len {k : Int} {n : Nat} : (marks k n).length = n := by
  induction n generalizing k with
  | zero => rfl
  | succ n ih => simp [marks, ih]

theorem marks_snoc {k : Int} {n : Nat} : marks k (n + 1) = marks k n ++ [k + n] := by
  induction n generalizing k with
  | zero => simp [marks]
  | succ n ih =>
    rw [marks, ih, marks, List.cons_append]
    congr 3
    omega

end Go.Mx

/-
  M1: plain definitions for drawing, deltas and tokens.
-/
namespace Go.Mx

/-- A record of three numbers. -/
abbrev P3 := Int × Int × Int

/-- How long two lists are equal. -/
def cp : List Int → List Int → Int
  | a :: as, b :: bs => if a = b then 1 + cp as bs else 0
  | _, _ => 0

theorem cp_nonneg (a b : List Int) : 0 ≤ cp a b := by
  induction a generalizing b with
  | nil => simp [cp]
  | cons x a ih =>
    cases b with
    | nil => simp [cp]
    | cons y b =>
      simp only [cp]
      split
      · have := ih b; omega
      · omega

theorem cp_le_left (a b : List Int) : cp a b ≤ (a.length : Int) := by
  induction a generalizing b with
  | nil => simp [cp]
  | cons x a ih =>
    cases b with
    | nil => simp [cp]; omega
    | cons y b =>
      simp only [cp, List.length_cons]
      split
      · have := ih b; omega
      · omega

theorem cp_le_right (a b : List Int) : cp a b ≤ (b.length : Int) := by
  induction a generalizing b with
  | nil => simp [cp]
  | cons x a ih =>
    cases b with
    | nil => simp [cp]
    | cons y b =>
      simp only [cp, List.length_cons]
      split
      · have := ih b; omega
      · omega

/-- The longest copy out of the rest of an old list. -/
def bestFrom (t : List Int) : List Int → Int → P3 → P3
  | [], _, b => b
  | o :: os, f, b => bestFrom t os (f + 1) (if 2 ≤ cp (o :: os) t ∧ b.2.2 < cp (o :: os) t then (0, f, cp (o :: os) t) else b)

/-- A symbol in the place of nothing. -/
def orSym (s : Int) (b : P3) : P3 := if b.2.2 = 0 then (s, 0, 0) else b

def pieceAt (old : List Int) (s : Int) (t : List Int) : P3 := orSym s (bestFrom (s :: t) old 0 (0, 0, 0))

/-- Begun with a symbol in the place of nothing: the same copy, or that symbol. -/
theorem bestFrom_sym (t : List Int) (s : Int) : ∀ (os : List Int) (f : Int) (b : P3), 0 ≤ b.2.2 → bestFrom t os f (orSym s b) = orSym s (bestFrom t os f b)
  | [], f, b, h0 => rfl
  | o :: os, f, b, h0 => by
    simp only [bestFrom]
    by_cases hn : 2 ≤ cp (o :: os) t ∧ b.2.2 < cp (o :: os) t
    · have h2 : 2 ≤ cp (o :: os) t ∧ (orSym s b).2.2 < cp (o :: os) t := by
        refine ⟨hn.1, ?_⟩
        unfold orSym
        split
        · simp; omega
        · exact hn.2
      rw [if_pos hn, if_pos h2]
      have := bestFrom_sym t s os (f + 1) (0, f, cp (o :: os) t) (by simp; omega)
      unfold orSym at this
      rw [if_neg (by simp; omega)] at this
      exact this
    · have h2 : ¬ (2 ≤ cp (o :: os) t ∧ (orSym s b).2.2 < cp (o :: os) t) := by
        intro ⟨q1, q2⟩
        refine hn ⟨q1, ?_⟩
        unfold orSym at q2
        split at q2
        · omega
        · exact q2
      rw [if_neg hn, if_neg h2]
      exact bestFrom_sym t s os (f + 1) b h0

/-- What is known of the longest copy. -/
theorem bestFrom_ok (t : List Int) (old : List Int) : ∀ (os : List Int) (f : Nat) (b : P3), old.drop f = os → f + os.length = old.length →
    (0 ≤ b.2.2 ∧ (b.2.2 = 0 ∨ (b.1 = 0 ∧ 0 ≤ b.2.1 ∧ 2 ≤ b.2.2 ∧ b.2.1 < (old.length : Int) ∧ b.2.2 = cp (old.drop b.2.1.toNat) t))) →
    (0 ≤ (bestFrom t os f b).2.2 ∧ ((bestFrom t os f b).2.2 = 0 ∨ ((bestFrom t os f b).1 = 0 ∧ 0 ≤ (bestFrom t os f b).2.1 ∧ 2 ≤ (bestFrom t os f b).2.2 ∧ (bestFrom t os f b).2.1 < (old.length : Int) ∧ (bestFrom t os f b).2.2 = cp (old.drop (bestFrom t os f b).2.1.toNat) t)))
  | [], f, b, h1, h2, h => h
  | o :: os, f, b, h1, h2, h => by
    simp only [bestFrom]
    have e : ((f : Int) + 1) = ((f + 1 : Nat) : Int) := by omega
    rw [e]
    have hl : f < old.length := by simp at h2; omega
    refine bestFrom_ok t old os (f + 1) _ ?_ (by simp at h2; omega) ?_
    · rw [List.drop_eq_getElem_cons hl] at h1
      exact (List.cons.inj h1).2
    · split
      · rename_i hn
        refine ⟨by simp; omega, .inr ⟨rfl, by simp, by simpa using hn.1, by simp; omega, by simp [h1]⟩⟩
      · exact h

/-- The pieces that lead from an old list to a new one. -/
def deltaOf (old : List Int) : List Int → List P3
  | [] => []
  | s :: t => pieceAt old s t :: deltaOf old (t.drop ((max (pieceAt old s t).2.2 1).toNat - 1))
termination_by l => l.length
decreasing_by simp; omega

/-- A piece laid behind what is there. -/
def putPiece (old : List Int) (p : P3) (a : List Int) : Option (List Int) :=
  if p.2.1 = 0 ∧ p.2.2 = 0 ∧ 0 ≤ p.1 ∧ p.1 ≤ 7 then some (a ++ [p.1])
  else if p.1 = 0 ∧ 0 ≤ p.2.1 ∧ p.2.1 ≤ (old.length : Int) ∧ 2 ≤ p.2.2 ∧ p.2.2 ≤ (old.length : Int) - p.2.1 then some (a ++ (old.take (p.2.1 + p.2.2).toNat).drop p.2.1.toNat)
  else none

def applyFrom (old : List Int) : List P3 → List Int → Option (List Int)
  | [], a => some a
  | p :: ps, a => match putPiece old p a with
    | none => none
    | some a' => if 40 < a'.length then none else applyFrom old ps a'

def deltaApply (old : List Int) (ps : List P3) : Option (List Int) := if LV old then applyFrom old ps [] else none

/-- How many symbols pieces or tokens copy. -/
def manySum : List P3 → Int
  | [] => 0
  | p :: ps => p.2.2 + manySum ps

/-- How long two lists are equal, at most k. -/
def cpk : Nat → List Int → List Int → Int
  | k + 1, a :: as, b :: bs => if a = b then 1 + cpk k as bs else 0
  | _, _, _ => 0

theorem cpk_nonneg (k : Nat) (a b : List Int) : 0 ≤ cpk k a b := by
  induction k generalizing a b with
  | zero => simp [cpk]
  | succ k ih =>
    cases a with
    | nil => simp [cpk]
    | cons x a =>
      cases b with
      | nil => simp [cpk]
      | cons y b =>
        simp only [cpk]
        split
        · have := ih a b; omega
        · omega

theorem cpk_le (k : Nat) (a b : List Int) : cpk k a b ≤ (k : Int) := by
  induction k generalizing a b with
  | zero => simp [cpk]
  | succ k ih =>
    cases a with
    | nil => simp [cpk]; omega
    | cons x a =>
      cases b with
      | nil => simp [cpk]; omega
      | cons y b =>
        simp only [cpk]
        split
        · have := ih a b; omega
        · omega

theorem cpk_le_left (k : Nat) (a b : List Int) : cpk k a b ≤ (a.length : Int) := by
  induction k generalizing a b with
  | zero => simp [cpk]
  | succ k ih =>
    cases a with
    | nil => simp [cpk]
    | cons x a =>
      cases b with
      | nil => simp [cpk]; omega
      | cons y b =>
        simp only [cpk, List.length_cons]
        split
        · have := ih a b; omega
        · omega

/-- How long a match is, some places back. -/
def mlong (l : List Int) (at_ back : Int) : Int := cpk 9 (l.drop at_.toNat) (l.drop (at_ - back).toNat)

/-- The best match among the next n places back. -/
def mfrom (l : List Int) (at_ : Int) : Nat → Int → P3 → P3
  | 0, _, b => b
  | n + 1, k, b => mfrom l at_ n (k + 1) (if 2 ≤ mlong l at_ k ∧ b.2.2 < mlong l at_ k then (0, k, mlong l at_ k) else b)

def matchAt (l : List Int) (at_ : Int) : P3 := mfrom l at_ (min 16 at_).toNat 1 (0, 0, 0)

theorem mfrom_ok (l : List Int) (at_ : Int) : ∀ (n : Nat) (k : Int) (b : P3), 1 ≤ k → k + n = min 16 at_ + 1 →
    (0 ≤ b.2.2 ∧ (b.2.2 = 0 → b = (0, 0, 0)) ∧ (b.2.2 = 0 ∨ (b.1 = 0 ∧ 1 ≤ b.2.1 ∧ b.2.1 ≤ min 16 at_ ∧ 2 ≤ b.2.2 ∧ b.2.2 = mlong l at_ b.2.1))) →
    (0 ≤ (mfrom l at_ n k b).2.2 ∧ ((mfrom l at_ n k b).2.2 = 0 → mfrom l at_ n k b = (0, 0, 0)) ∧ ((mfrom l at_ n k b).2.2 = 0 ∨ ((mfrom l at_ n k b).1 = 0 ∧ 1 ≤ (mfrom l at_ n k b).2.1 ∧ (mfrom l at_ n k b).2.1 ≤ min 16 at_ ∧ 2 ≤ (mfrom l at_ n k b).2.2 ∧ (mfrom l at_ n k b).2.2 = mlong l at_ (mfrom l at_ n k b).2.1)))
  | 0, k, b, hk, hn, h => h
  | n + 1, k, b, hk, hn, h => by
    simp only [mfrom]
    refine mfrom_ok l at_ n (k + 1) _ (by omega) (by omega) ?_
    split
    · rename_i q
      exact ⟨by simp; omega, by simp; omega, .inr ⟨rfl, by simpa using hk, by simp; omega, by simpa using q.1, rfl⟩⟩
    · exact h

theorem matchAt_ok (l : List Int) (at_ : Int) (h : 0 ≤ at_) : 0 ≤ (matchAt l at_).2.2 ∧ ((matchAt l at_).2.2 = 0 → matchAt l at_ = (0, 0, 0)) ∧ ((matchAt l at_).2.2 = 0 ∨ ((matchAt l at_).1 = 0 ∧ 1 ≤ (matchAt l at_).2.1 ∧ (matchAt l at_).2.1 ≤ min 16 at_ ∧ 2 ≤ (matchAt l at_).2.2 ∧ (matchAt l at_).2.2 = mlong l at_ (matchAt l at_).2.1)) :=
  mfrom_ok l at_ _ 1 (0, 0, 0) (by omega) (by omega) (by simp)

/-- The token at a place. -/
def tokAt (l : List Int) (at_ : Int) : P3 := if 0 < (matchAt l at_).2.2 then matchAt l at_ else (l.getD at_.toNat 0, 0, 0)

/-- Greedy tokens from a place on. -/
def greedy (l : List Int) (at_ : Int) : List P3 :=
  if h : 0 ≤ at_ ∧ at_ < (l.length : Int) then tokAt l at_ :: greedy l (at_ + max (tokAt l at_).2.2 1) else []
termination_by (l.length - at_).toNat
decreasing_by omega

/-- Symbols that are repeated from some places back. -/
def copyBack (back : Int) : Nat → List Int → List Int
  | 0, a => a
  | n + 1, a => copyBack back n (a ++ [a.getD ((a.length : Int) - back).toNat 0])

theorem copyBack_len (back : Int) : ∀ (n : Nat) (a : List Int), (copyBack back n a).length = a.length + n
  | 0, a => rfl
  | n + 1, a => by simp [copyBack, copyBack_len back n]; omega

def putTok (x : P3) (a : List Int) : Option (List Int) :=
  if x.2.1 = 0 ∧ x.2.2 = 0 ∧ 0 ≤ x.1 ∧ x.1 ≤ 7 then some (a ++ [x.1])
  else if x.1 = 0 ∧ 1 ≤ x.2.1 ∧ x.2.1 ≤ min 16 (a.length : Int) ∧ 2 ≤ x.2.2 ∧ x.2.2 ≤ 9 then some (copyBack x.2.1 x.2.2.toNat a)
  else none

def expandFrom : List P3 → List Int → Option (List Int)
  | [], a => some a
  | x :: xs, a => match putTok x a with
    | none => none
    | some a' => if 40 < a'.length then none else expandFrom xs a'

def expand (ts : List P3) : Option (List Int) := expandFrom ts []

/-- What tokens cost. -/
def costOf : List P3 → Int
  | [] => 0
  | x :: xs => (if x.2.2 = 0 then 4 else 8) + costOf xs

/-- As the reference counts it. -/
def costOf' : List P3 → Int
  | [] => 0
  | x :: xs => (if x.2.1 = 0 then 4 else 8) + costOf' xs

/-- Records with numbers in a row. -/
def marks3 (k : Int) : Nat → List P3
  | 0 => []
  | n + 1 => (k, k + 1, k + 2) :: marks3 (k + 3) n

theorem marks3_len {k : Int} {n : Nat} : (marks3 k n).length = n := by
  induction n generalizing k with
  | zero => rfl
  | succ n ih => simp [marks3, ih]

theorem marks3_snoc {k : Int} {n : Nat} : marks3 k (n + 1) = marks3 k n ++ [(k + 3 * n, k + 3 * n + 1, k + 3 * n + 2)] := by
  induction n generalizing k with
  | zero => simp [marks3]
  | succ n ih =>
    rw [marks3, ih, marks3, List.cons_append]
    have : k + 3 + 3 * (n : Int) = k + 3 * ((n + 1 : Nat) : Int) := by omega
    rw [this]

/-- Nothing found: nothing was there. -/
theorem bestFrom_zero {t : List Int} : ∀ (os : List Int) (f : Int) (b : P3), (b.2.2 = 0 → b = (0, 0, 0)) → (bestFrom t os f b).2.2 = 0 → bestFrom t os f b = (0, 0, 0)
  | [], f, b, hb, h => hb h
  | o :: os, f, b, hb, h => by
    simp only [bestFrom] at h ⊢
    refine bestFrom_zero os (f + 1) _ ?_ h
    split
    · rename_i q; intro e; simp at e; omega
    · exact hb

/-- The pieces of valid lists. -/
def deltaD (old l : List Int) : List P3 := if LV old = true ∧ LV l = true then deltaOf old l else []

theorem deltaOf_len (old : List Int) : ∀ (n : Nat) (l : List Int), l.length ≤ n → (deltaOf old l).length ≤ l.length
  | 0, [], _ => by simp [deltaOf]
  | n + 1, [], _ => by simp [deltaOf]
  | n + 1, s :: t, h => by
    rw [deltaOf]
    simp only [List.length_cons] at h ⊢
    have := deltaOf_len old n (t.drop ((max (pieceAt old s t).2.2 1).toNat - 1)) (by simp; omega)
    simp only [List.length_drop] at this
    omega

theorem deltaD_len (old l : List Int) : ((deltaD old l).length : Int) ≤ 40 := by
  unfold deltaD
  split
  · rename_i h
    have h1 := deltaOf_len old l.length l (Nat.le_refl _)
    have h2 := LV_len h.2
    omega
  · simp

/-! ### Steps -/

theorem cp_step {a b : List Int} {f g : Int} (h0 : 0 ≤ f) (h1 : f < (a.length : Int)) (h2 : 0 ≤ g) (h3 : g < (b.length : Int)) :
    cp (a.drop f.toNat) (b.drop g.toNat) = if a.getD f.toNat 0 = b.getD g.toNat 0 then 1 + cp (a.drop (f + 1).toNat) (b.drop (g + 1).toNat) else 0 := by
  rw [drop_lt 0 h0 h1, drop_lt 0 h2 h3, cp]

theorem cp_end {a b : List Int} {f g : Int} (h : ¬ f < (a.length : Int) ∨ ¬ g < (b.length : Int)) : cp (a.drop f.toNat) (b.drop g.toNat) = 0 := by
  rcases h with h | h
  · rw [drop_ge h]; rfl
  · rw [drop_ge h]; cases a.drop f.toNat <;> rfl

theorem best_step {t old : List Int} {f : Int} {b : P3} (h0 : 0 ≤ f) (h1 : f < (old.length : Int)) :
    bestFrom t (old.drop f.toNat) f b = bestFrom t (old.drop (f + 1).toNat) (f + 1) (if 2 ≤ cp (old.drop f.toNat) t ∧ b.2.2 < cp (old.drop f.toNat) t then (0, f, cp (old.drop f.toNat) t) else b) := by
  rw [drop_lt 0 h0 h1, bestFrom]

theorem best_end {t old : List Int} {f : Int} {b : P3} (h : ¬ f < (old.length : Int)) : bestFrom t (old.drop f.toNat) f b = b := by
  rw [drop_ge h, bestFrom]

theorem delta_step {old l : List Int} {a : Int} (h0 : 0 ≤ a) (h1 : a < (l.length : Int)) :
    deltaOf old (l.drop a.toNat) = pieceAt old (l.getD a.toNat 0) (l.drop (a + 1).toNat) :: deltaOf old (l.drop (a + max (pieceAt old (l.getD a.toNat 0) (l.drop (a + 1).toNat)).2.2 1).toNat) := by
  rw [drop_lt 0 h0 h1, deltaOf, List.drop_drop]
  congr 3
  omega

theorem delta_end {old l : List Int} {a : Int} (h : ¬ a < (l.length : Int)) : deltaOf old (l.drop a.toNat) = [] := by
  rw [drop_ge h, deltaOf]

/-- How far a piece reaches. -/
theorem piece_le {old l : List Int} {a : Int} (h0 : 0 ≤ a) (h1 : a < (l.length : Int)) :
    0 ≤ (pieceAt old (l.getD a.toNat 0) (l.drop (a + 1).toNat)).2.2 ∧ a + (pieceAt old (l.getD a.toNat 0) (l.drop (a + 1).toNat)).2.2 ≤ (l.length : Int) := by
  unfold pieceAt
  rw [← drop_lt 0 h0 h1]
  obtain ⟨q1, q2⟩ := bestFrom_ok (l.drop a.toNat) old old 0 (0, 0, 0) rfl (by simp) (by simp)
  generalize hb : bestFrom (l.drop a.toNat) old ((0 : Nat) : Int) (0, 0, 0) = b at *
  unfold orSym
  split
  · simp; omega
  · refine ⟨q1, ?_⟩
    rcases q2 with q2 | q2
    · omega
    · have := cp_le_right (old.drop b.2.1.toNat) (l.drop a.toNat)
      rw [← q2.2.2.2.2, List.length_drop] at this
      omega

end Go.Mx

/-
  M2: laws on deltas.
-/
namespace Go.Mx

/-- A valid piece over an old list of n symbols. -/
def pieceOk (n : Int) (p : P3) : Bool :=
  if p.2.2 = 0 then decide (p.2.1 = 0 ∧ 0 ≤ p.1 ∧ p.1 ≤ 7) else decide (p.1 = 0 ∧ 0 ≤ p.2.1 ∧ p.2.1 ≤ n - 1 ∧ 2 ≤ p.2.2 ∧ p.2.2 ≤ n - p.2.1)

theorem put_sym {old : List Int} {p : P3} {a : List Int} (h : pieceOk old.length p = true) (h0 : p.2.2 = 0) : putPiece old p a = some (a ++ [p.1]) ∧ p.2.1 = 0 ∧ 0 ≤ p.1 ∧ p.1 ≤ 7 := by
  unfold pieceOk at h
  rw [if_pos h0, decide_eq_true_eq] at h
  unfold putPiece
  exact ⟨if_pos ⟨h.1, h0, h.2⟩, h⟩

theorem put_copy {old : List Int} {p : P3} {a : List Int} (h : pieceOk old.length p = true) (h0 : ¬ p.2.2 = 0) :
    putPiece old p a = some (a ++ (old.take (p.2.1 + p.2.2).toNat).drop p.2.1.toNat) ∧ p.1 = 0 ∧ 0 ≤ p.2.1 ∧ 2 ≤ p.2.2 ∧ p.2.1 + p.2.2 ≤ (old.length : Int) := by
  unfold pieceOk at h
  rw [if_neg h0, decide_eq_true_eq] at h
  unfold putPiece
  rw [if_neg (fun q => h0 q.2.1), if_pos ⟨h.1, h.2.1, by omega, h.2.2.2.1, h.2.2.2.2⟩]
  exact ⟨rfl, h.1, h.2.1, h.2.2.2.1, by omega⟩

theorem put_none {old : List Int} {p : P3} {a : List Int} (h : pieceOk old.length p = false) : putPiece old p a = none := by
  unfold pieceOk at h
  unfold putPiece
  by_cases h0 : p.2.2 = 0
  · rw [if_pos h0, decide_eq_false_iff_not] at h
    rw [if_neg (fun q => h ⟨q.1, q.2.2⟩), if_neg (fun q => by omega)]
  · rw [if_neg h0, decide_eq_false_iff_not] at h
    rw [if_neg (fun q => h0 q.2.1), if_neg (fun q => h ⟨q.1, q.2.1, by omega, q.2.2.2.1, q.2.2.2.2⟩)]

theorem put_some {old : List Int} {p : P3} {a a' : List Int} (h : putPiece old p a = some a') : pieceOk old.length p = true := by
  cases hp : pieceOk old.length p with
  | true => rfl
  | false => rw [put_none hp] at h; cases h

theorem put_len {old : List Int} {p : P3} {a a' : List Int} (h : putPiece old p a = some a') : 0 ≤ p.2.2 ∧ (a'.length : Int) = a.length + max p.2.2 1 := by
  have hp := put_some h
  by_cases h0 : p.2.2 = 0
  · rw [(put_sym hp h0).1] at h
    cases h
    simp; omega
  · obtain ⟨q1, q2, q3, q4, q5⟩ := put_copy (a := a) hp h0
    rw [q1] at h
    cases h
    simp; omega

theorem apply_step {old : List Int} {ps : List P3} {i : Int} {a : List Int} (h0 : 0 ≤ i) (h1 : i < (ps.length : Int)) :
    applyFrom old (ps.drop i.toNat) a = match putPiece old (ps.getD i.toNat (0, 0, 0)) a with
      | none => none
      | some a' => if 40 < a'.length then none else applyFrom old (ps.drop (i + 1).toNat) a' := by
  rw [drop_lt (0, 0, 0) h0 h1, applyFrom] <;> (cases putPiece old (ps.getD i.toNat (0, 0, 0)) a <;> rfl)

theorem apply_end {old : List Int} {ps : List P3} {i : Int} {a : List Int} (h : ¬ i < (ps.length : Int)) : applyFrom old (ps.drop i.toNat) a = some a := by
  rw [drop_ge h, applyFrom]

theorem apply_len {old : List Int} : ∀ {ps : List P3} {a r : List Int}, applyFrom old ps a = some r → a.length ≤ 40 → r.length ≤ 40
  | [], a, r, h, ha => by rw [applyFrom] at h; cases h; exact ha
  | p :: ps, a, r, h, ha => by
    rw [applyFrom] at h
    split at h
    · cases h
    · split at h
      · cases h
      · exact apply_len h (by omega)

theorem applyD_len (old : List Int) (ps : List P3) : (((deltaApply old ps).getD []).length : Int) ≤ 40 := by
  unfold deltaApply
  split
  · cases h : applyFrom old ps [] with
    | none => simp
    | some r => have := apply_len h (by simp); simp; omega
  · simp

/-- What was copied is no more than what there is. -/
theorem apply_many {old : List Int} : ∀ {ps : List P3} {a r : List Int}, applyFrom old ps a = some r → (∀ p ∈ ps, 0 ≤ p.2.2) ∧ 0 ≤ manySum ps ∧ a.length + manySum ps ≤ r.length
  | [], a, r, h => by rw [applyFrom] at h; cases h; simp [manySum]
  | p :: ps, a, r, h => by
    rw [applyFrom] at h
    split at h
    · cases h
    · rename_i a' ha
      split at h
      · cases h
      · obtain ⟨q1, q2, q3⟩ := apply_many h
        obtain ⟨r1, r2⟩ := put_len ha
        refine ⟨?_, ?_, ?_⟩
        · intro x hx
          rcases List.mem_cons.1 hx with rfl | hx
          · exact r1
          · exact q1 x hx
        · simp only [manySum]; omega
        · simp only [manySum]; omega

theorem many_step {ps : List P3} {i : Int} (h0 : 0 ≤ i) (h1 : i < (ps.length : Int)) : manySum (ps.drop i.toNat) = (ps.getD i.toNat (0, 0, 0)).2.2 + manySum (ps.drop (i + 1).toNat) := by
  rw [drop_lt (0, 0, 0) h0 h1, manySum]

theorem many_end {ps : List P3} {i : Int} (h : ¬ i < (ps.length : Int)) : manySum (ps.drop i.toNat) = 0 := by
  rw [drop_ge h, manySum]

theorem many_nonneg : ∀ {ps : List P3}, (∀ p ∈ ps, 0 ≤ p.2.2) → 0 ≤ manySum ps
  | [], _ => by simp [manySum]
  | p :: ps, h => by
    have := many_nonneg (ps := ps) (fun x hx => h x (List.mem_cons_of_mem _ hx))
    have := h p (List.mem_cons_self ..)
    simp only [manySum]; omega

theorem many_drop {ps : List P3} (h : ∀ p ∈ ps, 0 ≤ p.2.2) (n : Nat) : 0 ≤ manySum (ps.drop n) :=
  many_nonneg fun p hp => h p (List.mem_of_mem_drop hp)

/-- How many symbols were copied. -/
def copiedD (old : List Int) (ps : List P3) : Int := if (deltaApply old ps).isSome then manySum ps else -1

end Go.Mx

/-
  M3: what the statements on deltas say of lists.
-/
namespace Go.Mx

/-- Where two lists are equal. -/
theorem cp_take (a b : List Int) : a.take (cp a b).toNat = b.take (cp a b).toNat := by
  induction a generalizing b with
  | nil => simp [cp]
  | cons x a ih =>
    cases b with
    | nil => simp [cp]
    | cons y b =>
      simp only [cp]
      split
      · rename_i h
        subst h
        have := cp_nonneg a b
        rw [show (1 + cp a b).toNat = (cp a b).toNat + 1 by omega]
        simp [ih b]
      · simp

theorem take_drop_cut {l : List Int} {f m : Int} (hf : 0 ≤ f) (hm : 0 ≤ m) : (l.take (f + m).toNat).drop f.toNat = (l.drop f.toNat).take m.toNat := by
  rw [List.drop_take]
  congr 1
  omega

theorem pieceAt_cases (old : List Int) (s : Int) (t : List Int) :
    (pieceAt old s t = (s, 0, 0)) ∨ (∃ f m, pieceAt old s t = (0, f, m) ∧ 0 ≤ f ∧ 2 ≤ m ∧ f < (old.length : Int) ∧ m = cp (old.drop f.toNat) (s :: t)) := by
  unfold pieceAt
  obtain ⟨q1, q2⟩ := bestFrom_ok (s :: t) old old 0 (0, 0, 0) rfl (by simp) (by simp)
  generalize hb : bestFrom (s :: t) old ((0 : Nat) : Int) (0, 0, 0) = b at *
  unfold orSym
  by_cases h : b.2.2 = 0
  · exact .inl (if_pos h)
  · obtain ⟨b1, b2, b3⟩ := b
    rcases q2 with q2 | q2
    · exact absurd q2 h
    · refine .inr ⟨b2, b3, ?_, q2.2.1, q2.2.2.1, q2.2.2.2.1, q2.2.2.2.2⟩
      rw [if_neg h]
      exact Prod.ext q2.1 rfl

/-- PIECES LEAD TO THE NEW LIST. -/
theorem delta_apply (old : List Int) : ∀ (n : Nat) (l acc : List Int), l.length ≤ n → (∀ x ∈ l, 0 ≤ x ∧ x ≤ 7) → acc.length + l.length ≤ 40 → applyFrom old (deltaOf old l) acc = some (acc ++ l)
  | 0, [], acc, _, _, _ => by simp [deltaOf, applyFrom]
  | n + 1, [], acc, _, _, _ => by simp [deltaOf, applyFrom]
  | n + 1, s :: t, acc, hn, hx, hl => by
    rw [deltaOf, applyFrom]
    simp only [List.length_cons] at hn hl
    have hs := hx s (List.mem_cons_self ..)
    rcases pieceAt_cases old s t with h | ⟨f, m, h, hf, hm, hfl, hcp⟩
    · rw [h]
      have hp : putPiece old (s, 0, 0) acc = some (acc ++ [s]) := if_pos ⟨rfl, rfl, hs⟩
      rw [hp]
      have h1 : ¬ 40 < (acc ++ [s]).length := by simp; omega
      simp only [if_neg h1]
      have e0 : ((max (0 : Int) 1).toNat - 1) = 0 := rfl
      rw [e0, List.drop_zero, delta_apply old n t (acc ++ [s]) (by omega) (fun x hm => hx x (List.mem_cons_of_mem _ hm)) (by simp; omega)]
      simp
    · rw [h]
      have hle := cp_le_left (old.drop f.toNat) (s :: t)
      have hle' := cp_le_right (old.drop f.toNat) (s :: t)
      rw [← hcp] at hle hle'
      simp only [List.length_drop, List.length_cons] at hle hle'
      have hp : putPiece old (0, f, m) acc = some (acc ++ (old.take (f + m).toNat).drop f.toNat) := by
        unfold putPiece
        rw [if_neg (by simp; omega), if_pos ⟨rfl, hf, by simp; omega, hm, by simp; omega⟩]
      rw [hp, take_drop_cut hf (by omega)]
      have he : (old.drop f.toNat).take m.toNat = (s :: t).take m.toNat := by rw [hcp]; exact cp_take _ _
      rw [he]
      have hlen : ((s :: t).take m.toNat).length = m.toNat := by simp; omega
      have h1 : ¬ 40 < (acc ++ (s :: t).take m.toNat).length := by rw [List.length_append, hlen]; omega
      simp only [if_neg h1]
      have hd : t.drop ((max m 1).toNat - 1) = (s :: t).drop m.toNat := by
        obtain ⟨k, hk⟩ : ∃ k, m.toNat = k + 1 := ⟨m.toNat - 1, by omega⟩
        rw [show (max m 1).toNat - 1 = k by omega, hk]; rfl
      rw [hd, delta_apply old n ((s :: t).drop m.toNat) (acc ++ (s :: t).take m.toNat) (by simp; omega) (fun x hm => hx x (List.mem_of_mem_drop hm)) (by rw [List.length_append, hlen]; simp; omega)]
      rw [List.append_assoc, List.take_append_drop]

theorem delta_leads {old l : List Int} (ho : LV old = true) (hl : LV l = true) : deltaApply old (deltaD old l) = some l := by
  unfold deltaApply deltaD
  rw [if_pos ho, if_pos ⟨ho, hl⟩, delta_apply old l.length l [] (Nat.le_refl _) (LV_in hl) (by simp; exact LV_len hl)]
  simp

theorem deltaD_le {old l : List Int} : (deltaD old l).length ≤ l.length := by
  unfold deltaD
  split
  · exact deltaOf_len old l.length l (Nat.le_refl _)
  · simp

/-- WITHOUT AN OLD LIST ALL SYMBOLS ARE NEW. -/
theorem delta_none : ∀ (l : List Int), deltaOf [] l = l.map fun s => (s, 0, 0)
  | [] => by simp [deltaOf]
  | s :: t => by
    have hp : pieceAt [] s t = (s, 0, 0) := rfl
    have e0 : ((max (0 : Int) 1).toNat - 1) = 0 := rfl
    rw [deltaOf, hp]
    simp only [e0, List.drop_zero, delta_none t, List.map_cons]

theorem deltaD_none {l : List Int} (hl : LV l = true) : deltaD [] l = l.map fun s => (s, 0, 0) := by
  unfold deltaD
  rw [if_pos ⟨rfl, hl⟩, delta_none]

theorem bestFrom_stay (t : List Int) : ∀ (os : List Int) (f : Int) (b : P3), (os.length : Int) ≤ b.2.2 → bestFrom t os f b = b
  | [], f, b, h => rfl
  | o :: os, f, b, h => by
    simp only [bestFrom]
    have := cp_le_left (o :: os) t
    rw [if_neg (by omega)]
    exact bestFrom_stay t os (f + 1) b (by simp only [List.length_cons] at h; omega)

theorem cp_self (a : List Int) : cp a a = a.length := by
  induction a with
  | nil => rfl
  | cons x a ih => simp [cp, ih]; omega

/-- A LIST IS ONE COPY OF ITSELF. -/
theorem deltaD_same {old : List Int} (ho : LV old = true) (h2 : 2 ≤ old.length) : deltaD old old = [(0, 0, (old.length : Int))] := by
  unfold deltaD
  rw [if_pos ⟨ho, ho⟩]
  cases old with
  | nil => simp at h2
  | cons s t =>
    have hb : bestFrom (s :: t) (s :: t) 0 (0, 0, 0) = (0, 0, ((s :: t).length : Int)) := by
      simp only [bestFrom]
      rw [cp_self, if_pos ⟨by omega, by simp only [List.length_cons] at h2 ⊢; omega⟩]
      exact bestFrom_stay _ _ _ _ (by simp only [List.length_cons]; omega)
    have hp : pieceAt (s :: t) s t = (0, 0, ((s :: t).length : Int)) := by
      unfold pieceAt orSym
      rw [hb, if_neg (by simp; omega)]
    rw [deltaOf, hp]
    have : t.drop ((max ((s :: t).length : Int) 1).toNat - 1) = [] := List.drop_eq_nil_of_le (by simp; omega)
    simp only [this, deltaOf]

theorem deltaD_nil (old : List Int) : deltaD old [] = [] := by
  unfold deltaD
  split <;> simp [deltaOf]

/-- The longest copy, the first one of several. -/
theorem bestFrom_max (t : List Int) (old : List Int) : ∀ (os : List Int) (f : Nat) (b : P3), old.drop f = os → f + os.length = old.length → 0 ≤ b.2.2 → b.2.1 ≤ (f : Int) →
    (∀ g : Nat, g < f → cp (old.drop g) t ≤ max b.2.2 1 ∧ (0 < b.2.2 → cp (old.drop g) t = b.2.2 → b.2.1 ≤ (g : Int))) →
    ∀ g : Nat, g < old.length → cp (old.drop g) t ≤ max (bestFrom t os f b).2.2 1 ∧ (0 < (bestFrom t os f b).2.2 → cp (old.drop g) t = (bestFrom t os f b).2.2 → (bestFrom t os f b).2.1 ≤ (g : Int))
  | [], f, b, h1, h2, h0, _, h, g, hg => h g (by simp at h2; omega)
  | o :: os, f, b, h1, h2, h0, hbf, h, g, hg => by
    simp only [bestFrom]
    have hl : f < old.length := by simp at h2; omega
    have e : ((f : Int) + 1) = ((f + 1 : Nat) : Int) := by omega
    rw [e]
    refine bestFrom_max t old os (f + 1) _ ?_ (by simp at h2; omega) ?_ ?_ ?_ g hg
    · rw [List.drop_eq_getElem_cons hl] at h1
      exact (List.cons.inj h1).2
    · split
      · simp; omega
      · exact h0
    · split
      · show (f : Int) ≤ ((f + 1 : Nat) : Int)
        omega
      · omega
    · intro g' hg'
      rw [← h1]
      by_cases hc : 2 ≤ cp (old.drop f) t ∧ b.2.2 < cp (old.drop f) t
      · rw [if_pos hc]
        simp only
        rcases Nat.lt_succ_iff_lt_or_eq.1 hg' with hlt | rfl
        · obtain ⟨q1, q2⟩ := h g' hlt
          exact ⟨by omega, fun _ hcp => by omega⟩
        · exact ⟨by omega, fun _ _ => by omega⟩
      · rw [if_neg hc]
        rcases Nat.lt_succ_iff_lt_or_eq.1 hg' with hlt | rfl
        · exact h g' hlt
        · have := cp_nonneg (old.drop g') t
          exact ⟨by omega, fun hb hcp => by omega⟩

theorem pieceAt_max {old : List Int} (s : Int) (t : List Int) {g : Int} (h0 : 0 ≤ g) (hg : g < (old.length : Int)) :
    cp (old.drop g.toNat) (s :: t) ≤ max (pieceAt old s t).2.2 1 ∧ (0 < (pieceAt old s t).2.2 → cp (old.drop g.toNat) (s :: t) = (pieceAt old s t).2.2 → (pieceAt old s t).2.1 ≤ g) := by
  have h := bestFrom_max (s :: t) old old 0 (0, 0, 0) rfl (by simp) (by simp) (by simp) (by intro g hg; omega) g.toNat (by omega)
  unfold pieceAt orSym
  have hz := bestFrom_zero (t := s :: t) old 0 (0, 0, 0) (by simp)
  generalize hb : bestFrom (s :: t) old ((0 : Nat) : Int) (0, 0, 0) = b at *
  split
  · rename_i hb0
    rw [hb0] at h
    exact ⟨h.1, fun q => by simp at q⟩
  · refine ⟨h.1, fun q1 q2 => ?_⟩
    have := h.2 q1 q2
    omega

/-- PIECES HAVE ALL SYMBOLS. -/
def longSum : List P3 → Int
  | [] => 0
  | p :: ps => max p.2.2 1 + longSum ps

theorem long_step {ps : List P3} {i : Int} (h0 : 0 ≤ i) (h1 : i < (ps.length : Int)) : longSum (ps.drop i.toNat) = max (ps.getD i.toNat (0, 0, 0)).2.2 1 + longSum (ps.drop (i + 1).toNat) := by
  rw [drop_lt (0, 0, 0) h0 h1, longSum]

theorem long_end {ps : List P3} {i : Int} (h : ¬ i < (ps.length : Int)) : longSum (ps.drop i.toNat) = 0 := by
  rw [drop_ge h, longSum]

theorem long_nonneg : ∀ (ps : List P3), 0 ≤ longSum ps
  | [] => by simp [longSum]
  | p :: ps => by have := long_nonneg ps; simp only [longSum]; omega

theorem apply_long {old : List Int} : ∀ {ps : List P3} {a r : List Int}, applyFrom old ps a = some r → (r.length : Int) = a.length + longSum ps
  | [], a, r, h => by rw [applyFrom] at h; cases h; simp [longSum]
  | p :: ps, a, r, h => by
    rw [applyFrom] at h
    split at h
    · cases h
    · rename_i a' ha
      split at h
      · cases h
      · have := apply_long h
        have := (put_len ha).2
        simp only [longSum]; omega

theorem apply_in {old : List Int} (ho : ∀ x ∈ old, 0 ≤ x ∧ x ≤ 7) : ∀ {ps : List P3} {a r : List Int}, applyFrom old ps a = some r → (∀ x ∈ a, 0 ≤ x ∧ x ≤ 7) → ∀ x ∈ r, 0 ≤ x ∧ x ≤ 7
  | [], a, r, h, ha => by rw [applyFrom] at h; cases h; exact ha
  | p :: ps, a, r, h, ha => by
    rw [applyFrom] at h
    split at h
    · cases h
    · rename_i a' ha'
      split at h
      · cases h
      · refine apply_in ho h ?_
        have hp := put_some ha'
        by_cases h0 : p.2.2 = 0
        · obtain ⟨q1, _, q2⟩ := put_sym (a := a) hp h0
          rw [q1] at ha'; cases ha'
          intro x hx
          rcases List.mem_append.1 hx with hx | hx
          · exact ha x hx
          · simp at hx; subst hx; exact q2
        · obtain ⟨q1, _⟩ := put_copy (a := a) hp h0
          rw [q1] at ha'; cases ha'
          intro x hx
          rcases List.mem_append.1 hx with hx | hx
          · exact ha x hx
          · exact ho x (List.mem_of_mem_take (List.mem_of_mem_drop hx))

theorem deltaApply_some {old : List Int} {ps : List P3} {r : List Int} (h : deltaApply old ps = some r) : LV old = true ∧ applyFrom old ps [] = some r := by
  unfold deltaApply at h
  split at h
  · rename_i ho; exact ⟨ho, h⟩
  · cases h

theorem apply_valid {old : List Int} {ps : List P3} {r : List Int} (h : deltaApply old ps = some r) : (r.length : Int) = longSum ps ∧ LV r = true := by
  obtain ⟨h1, h2⟩ := deltaApply_some h
  have := apply_long h2
  refine ⟨by simpa using this, LV_iff.2 ⟨apply_len h2 (by simp), apply_in (LV_in h1) h2 (by simp)⟩⟩

/-- What is behind does not depend on what is before. -/
theorem apply_behind {old : List Int} : ∀ {ps : List P3} {a r : List Int}, applyFrom old ps a = some r → ∃ s, r = a ++ s ∧ ∀ b : List Int, b.length ≤ a.length → applyFrom old ps b = some (b ++ s)
  | [], a, r, h => by rw [applyFrom] at h; cases h; exact ⟨[], by simp, fun b _ => by simp [applyFrom]⟩
  | p :: ps, a, r, h => by
    rw [applyFrom] at h
    split at h
    · cases h
    · rename_i a' ha
      split at h
      · cases h
      · rename_i hle
        obtain ⟨s, h1, h2⟩ := apply_behind h
        have hp := put_some ha
        obtain ⟨d, hd1, hd2⟩ : ∃ d, a' = a ++ d ∧ ∀ b : List Int, putPiece old p b = some (b ++ d) := by
          by_cases h0 : p.2.2 = 0
          · have q := put_sym (a := a) hp h0
            rw [q.1] at ha; cases ha
            exact ⟨_, rfl, fun b => (put_sym hp h0).1⟩
          · have q := put_copy (a := a) hp h0
            rw [q.1] at ha; cases ha
            exact ⟨_, rfl, fun b => (put_copy hp h0).1⟩
        refine ⟨d ++ s, by rw [h1, hd1, List.append_assoc], fun b hb => ?_⟩
        rw [applyFrom, hd2 b]
        have : ¬ 40 < (b ++ d).length := by rw [hd1] at hle; simp at hle ⊢; omega
        simp only [if_neg this]
        rw [h2 (b ++ d) (by rw [hd1]; simp; omega), List.append_assoc]

theorem apply_append {old : List Int} : ∀ {ps qs : List P3} {a r : List Int}, applyFrom old (ps ++ qs) a = some r → ∃ m, applyFrom old ps a = some m ∧ applyFrom old qs m = some r
  | [], qs, a, r, h => ⟨a, by simp [applyFrom], h⟩
  | p :: ps, qs, a, r, h => by
    rw [List.cons_append, applyFrom] at h
    split at h
    · cases h
    · rename_i a' ha
      split at h
      · cases h
      · rename_i hle
        obtain ⟨m, h1, h2⟩ := apply_append h
        refine ⟨m, ?_, h2⟩
        rw [applyFrom, ha]
        simp only [if_neg hle]
        exact h1

/-- THE FIRST PIECES HAVE THE FIRST SYMBOLS. -/
theorem apply_begin {old : List Int} {ps : List P3} {r : List Int} (h : deltaApply old ps = some r) (k : Nat) :
    ∃ x y, deltaApply old (ps.take k) = some x ∧ deltaApply old (ps.drop k) = some y ∧ x ++ y = r := by
  obtain ⟨h1, h2⟩ := deltaApply_some h
  rw [← List.take_append_drop k ps] at h2
  obtain ⟨m, h3, h4⟩ := apply_append h2
  obtain ⟨s, h5, h6⟩ := apply_behind h4
  refine ⟨m, s, by unfold deltaApply; rw [if_pos h1]; exact h3, ?_, h5.symm⟩
  unfold deltaApply
  rw [if_pos h1]
  have := h6 [] (by simp)
  simpa using this

/-- SYMBOLS BEHIND THE OLD LIST DO NO HARM. -/
theorem apply_more {old : List Int} {x : Int} : ∀ {ps : List P3} {a r : List Int}, applyFrom old ps a = some r → applyFrom (old ++ [x]) ps a = some r
  | [], a, r, h => by rw [applyFrom] at h ⊢; exact h
  | p :: ps, a, r, h => by
    rw [applyFrom] at h
    split at h
    · cases h
    · rename_i a' ha
      split at h
      · cases h
      · rename_i hle
        have hp := put_some ha
        have : putPiece (old ++ [x]) p a = some a' := by
          by_cases h0 : p.2.2 = 0
          · obtain ⟨q1, q2, q3⟩ := put_sym (a := a) hp h0
            rw [q1] at ha; cases ha
            exact if_pos ⟨q2, h0, q3⟩
          · obtain ⟨q1, q2, q3, q4, q5⟩ := put_copy (a := a) hp h0
            rw [q1] at ha; cases ha
            unfold putPiece
            rw [if_neg (fun q => h0 q.2.1), if_pos ⟨q2, q3, by simp; omega, q4, by simp; omega⟩]
            rw [List.take_append_of_le_length (by omega)]
        rw [applyFrom, this]
        simp only [if_neg hle]
        exact apply_more h

theorem deltaApply_more {old : List Int} {x : Int} {ps : List P3} {r : List Int} (h : deltaApply old ps = some r) (hx : 0 ≤ x ∧ x ≤ 7) (hl : ¬ (old.length : Int) = 40) : deltaApply (old ++ [x]) ps = some r := by
  obtain ⟨h1, h2⟩ := deltaApply_some h
  have hv : LV (old ++ [x]) = true := by
    have := LV_len h1
    refine LV_iff.2 ⟨by simp; omega, fun n hn => ?_⟩
    rcases List.mem_append.1 hn with hn | hn
    · exact LV_in h1 n hn
    · simp at hn; subst hn; exact hx
  unfold deltaApply
  rw [if_pos hv]
  exact apply_more h2

/-- How many pieces are symbols. -/
def zeros : List P3 → Int
  | [] => 0
  | p :: ps => (if p.2.2 = 0 then 1 else 0) + zeros ps

theorem zeros_step {ps : List P3} {i : Int} (h0 : 0 ≤ i) (h1 : i < (ps.length : Int)) : zeros (ps.drop i.toNat) = (if (ps.getD i.toNat (0, 0, 0)).2.2 = 0 then 1 else 0) + zeros (ps.drop (i + 1).toNat) := by
  rw [drop_lt (0, 0, 0) h0 h1, zeros]

theorem zeros_end {ps : List P3} {i : Int} (h : ¬ i < (ps.length : Int)) : zeros (ps.drop i.toNat) = 0 := by
  rw [drop_ge h, zeros]

theorem zeros_nonneg : ∀ (ps : List P3), 0 ≤ zeros ps
  | [] => by simp [zeros]
  | p :: ps => by have := zeros_nonneg ps; simp only [zeros]; split <;> omega

theorem many_zeros : ∀ {ps : List P3}, (∀ p ∈ ps, 0 ≤ p.2.2) → manySum ps + zeros ps = longSum ps
  | [], _ => by simp [manySum, zeros, longSum]
  | p :: ps, h => by
    have := many_zeros (ps := ps) (fun x hx => h x (List.mem_cons_of_mem _ hx))
    have := h p (List.mem_cons_self ..)
    simp only [manySum, zeros, longSum]
    split <;> omega

theorem copied_len {old : List Int} {ps : List P3} (h : ¬ copiedD old ps < 0) : ∃ r, deltaApply old ps = some r ∧ copiedD old ps + zeros ps = r.length ∧ copiedD old ps ≤ 40 ∧ zeros ps ≤ 40 := by
  unfold copiedD at h ⊢
  split at h
  · rename_i hs
    obtain ⟨r, hr⟩ := Option.isSome_iff_exists.1 hs
    rw [if_pos hs]
    obtain ⟨h1, h2⟩ := deltaApply_some hr
    have q1 := apply_many h2
    have q2 := (apply_valid hr).1
    have q3 := many_zeros q1.1
    have q4 := apply_len h2 (by simp)
    have q5 := zeros_nonneg ps
    exact ⟨r, hr, by omega, by omega, by omega⟩
  · omega

theorem copied_all {old : List Int} (ho : LV old = true) (h2 : 2 ≤ old.length) : copiedD old (deltaD old old) = old.length := by
  unfold copiedD
  rw [delta_leads ho ho, deltaD_same ho h2]
  simp [manySum]

end Go.Mx

/-
  M4: laws on matches and tokens.
-/
namespace Go.Mx

theorem cpk_step {k : Nat} {a b : List Int} {f g : Int} (h0 : 0 ≤ f) (h1 : f < (a.length : Int)) (h2 : 0 ≤ g) (h3 : g < (b.length : Int)) :
    cpk (k + 1) (a.drop f.toNat) (b.drop g.toNat) = if a.getD f.toNat 0 = b.getD g.toNat 0 then 1 + cpk k (a.drop (f + 1).toNat) (b.drop (g + 1).toNat) else 0 := by
  rw [drop_lt 0 h0 h1, drop_lt 0 h2 h3, cpk]

theorem cpk_end {k : Nat} {a b : List Int} {f : Int} (h : ¬ f < (a.length : Int)) : cpk k (a.drop f.toNat) b = 0 := by
  rw [drop_ge h]; cases k <;> rfl

theorem cpk_zero {a b : List Int} : cpk 0 a b = 0 := by cases a <;> cases b <;> rfl

theorem mfrom_step {l : List Int} {a : Int} {n : Nat} {k : Int} {b : P3} : mfrom l a (n + 1) k b = mfrom l a n (k + 1) (if 2 ≤ mlong l a k ∧ b.2.2 < mlong l a k then (0, k, mlong l a k) else b) := rfl

/-- A match within a valid list; nothing elsewhere. -/
def matchD (l : List Int) (a : Int) : P3 := if LV l = true ∧ 0 ≤ a ∧ a < (l.length : Int) then matchAt l a else (0, 0, 0)

theorem mlong_le (l : List Int) {a k : Int} (h0 : 0 ≤ a) (h1 : a ≤ (l.length : Int)) : 0 ≤ mlong l a k ∧ mlong l a k ≤ 9 ∧ a + mlong l a k ≤ (l.length : Int) := by
  have q1 := cpk_nonneg 9 (l.drop a.toNat) (l.drop (a - k).toNat)
  have q2 := cpk_le 9 (l.drop a.toNat) (l.drop (a - k).toNat)
  have q3 := cpk_le_left 9 (l.drop a.toNat) (l.drop (a - k).toNat)
  unfold mlong
  simp only [List.length_drop] at q3
  refine ⟨q1, by omega, by omega⟩

/-- What is known of the token at a place. -/
theorem tokAt_ok (l : List Int) {a : Int} (h0 : 0 ≤ a) (h1 : a < (l.length : Int)) :
    0 ≤ (tokAt l a).2.2 ∧ a + max (tokAt l a).2.2 1 ≤ (l.length : Int) ∧ ((tokAt l a).2.2 = 0 → tokAt l a = (l.getD a.toNat 0, 0, 0)) ∧
    (¬ (tokAt l a).2.2 = 0 → (tokAt l a).1 = 0 ∧ 1 ≤ (tokAt l a).2.1 ∧ (tokAt l a).2.1 ≤ min 16 a ∧ 2 ≤ (tokAt l a).2.2 ∧ (tokAt l a).2.2 ≤ 9 ∧ (tokAt l a).2.2 = mlong l a (tokAt l a).2.1) := by
  obtain ⟨q1, q2, q3⟩ := matchAt_ok l a h0
  unfold tokAt
  by_cases hp : 0 < (matchAt l a).2.2
  · rw [if_pos hp]
    have q4 := q3.resolve_left (by omega)
    have q5 := mlong_le l (k := (matchAt l a).2.1) h0 (by omega)
    rw [← q4.2.2.2.2] at q5
    exact ⟨q1, by omega, fun h => by omega, fun _ => ⟨q4.1, q4.2.1, q4.2.2.1, q4.2.2.2.1, q5.2.1, q4.2.2.2.2⟩⟩
  · rw [if_neg hp]
    refine ⟨by simp, ?_, fun _ => rfl, fun h => absurd rfl h⟩
    show a + max 0 1 ≤ _
    omega

theorem greedy_step {l : List Int} {a : Int} (h0 : 0 ≤ a) (h1 : a < (l.length : Int)) : greedy l a = tokAt l a :: greedy l (a + max (tokAt l a).2.2 1) := by
  rw [greedy, dif_pos ⟨h0, h1⟩]

theorem greedy_end {l : List Int} {a : Int} (h : ¬ a < (l.length : Int)) : greedy l a = [] := by
  rw [greedy, dif_neg (fun q => h q.2)]

theorem greedy_len (l : List Int) : ∀ (n : Nat) (a : Int), 0 ≤ a → a ≤ (l.length : Int) → (l.length : Int) - a ≤ n → ((greedy l a).length : Int) ≤ (l.length : Int) - a
  | 0, a, h0, h1, h => by rw [greedy_end (by omega)]; simp; omega
  | n + 1, a, h0, h1, h => by
    by_cases hl : a < (l.length : Int)
    · rw [greedy_step h0 hl]
      obtain ⟨q1, q2, _⟩ := tokAt_ok l h0 hl
      have := greedy_len l n (a + max (tokAt l a).2.2 1) (by omega) (by omega) (by omega)
      simp only [List.length_cons]
      omega
    · rw [greedy_end hl]; simp; omega

def greedyD (l : List Int) : List P3 := if LV l = true then greedy l 0 else []

theorem greedyD_len (l : List Int) : ((greedyD l).length : Int) ≤ (l.length : Int) ∧ ((greedyD l).length : Int) ≤ 40 := by
  unfold greedyD
  split
  · rename_i h
    have := greedy_len l l.length 0 (by omega) (by omega) (by omega)
    have := LV_len h
    omega
  · simp

theorem copyBack_snoc (back : Int) (n : Nat) (a : List Int) : copyBack back (n + 1) a = copyBack back n (a ++ [a.getD ((a.length : Int) - back).toNat 0]) := rfl

/-- A valid token behind some symbols (as the reference asks it). -/
def tokOk (x : P3) (n : Int) : Bool :=
  if x.2.1 = 0 then decide (x.2.2 = 0 ∧ (0 ≤ x.1 ∧ x.1 ≤ 7) ∧ n < 40)
  else decide (x.1 = 0 ∧ (1 ≤ x.2.1 ∧ x.2.1 ≤ min 16 n) ∧ (2 ≤ x.2.2 ∧ x.2.2 ≤ 9) ∧ n + x.2.2 ≤ 40)

theorem expand_step {xs : List P3} {i : Int} {a : List Int} (h0 : 0 ≤ i) (h1 : i < (xs.length : Int)) :
    expandFrom (xs.drop i.toNat) a = match putTok (xs.getD i.toNat (0, 0, 0)) a with
      | none => none
      | some a' => if 40 < a'.length then none else expandFrom (xs.drop (i + 1).toNat) a' := by
  rw [drop_lt (0, 0, 0) h0 h1, expandFrom] <;> (cases putTok (xs.getD i.toNat (0, 0, 0)) a <;> rfl)

theorem expand_put {xs : List P3} {i : Int} {a a' : List Int} (h0 : 0 ≤ i) (h1 : i < (xs.length : Int)) (h : putTok (xs.getD i.toNat (0, 0, 0)) a = some a') :
    expandFrom (xs.drop i.toNat) a = if 40 < a'.length then none else expandFrom (xs.drop (i + 1).toNat) a' := by
  rw [expand_step h0 h1, h]

theorem expand_none {xs : List P3} {i : Int} {a : List Int} (h0 : 0 ≤ i) (h1 : i < (xs.length : Int)) (h : putTok (xs.getD i.toNat (0, 0, 0)) a = none) : expandFrom (xs.drop i.toNat) a = none := by
  rw [expand_step h0 h1, h]

theorem expand_end {xs : List P3} {i : Int} {a : List Int} (h : ¬ i < (xs.length : Int)) : expandFrom (xs.drop i.toNat) a = some a := by
  rw [drop_ge h, expandFrom]

theorem expand_sym {xs : List P3} {i : Int} {a : List Int} (h0 : 0 ≤ i) (h1 : i < (xs.length : Int)) {s b m : Int} (hx : xs.getD i.toNat (0, 0, 0) = (s, b, m)) (h : tokOk (s, b, m) a.length = true) (hb : b = 0) :
    m = 0 ∧ (a.length : Int) < 40 ∧ expandFrom (xs.drop i.toNat) a = expandFrom (xs.drop (i + 1).toNat) (a ++ [s]) := by
  unfold tokOk at h
  simp only [if_pos hb, decide_eq_true_eq] at h
  refine ⟨h.1, h.2.2, ?_⟩
  rw [expand_step h0 h1, hx]
  have : putTok (s, b, m) a = some (a ++ [s]) := if_pos ⟨hb, h.1, h.2.1⟩
  rw [this]
  have h40 : ¬ 40 < (a ++ [s]).length := by simp; omega
  simp only [if_neg h40]

theorem expand_copy {xs : List P3} {i : Int} {a : List Int} (h0 : 0 ≤ i) (h1 : i < (xs.length : Int)) {s b m : Int} (hx : xs.getD i.toNat (0, 0, 0) = (s, b, m)) (h : tokOk (s, b, m) a.length = true) (hb : ¬ b = 0) :
    s = 0 ∧ 1 ≤ b ∧ b ≤ (a.length : Int) ∧ 2 ≤ m ∧ m ≤ 9 ∧ a.length + m ≤ 40 ∧ expandFrom (xs.drop i.toNat) a = expandFrom (xs.drop (i + 1).toNat) (copyBack b m.toNat a) := by
  unfold tokOk at h
  simp only [if_neg hb, decide_eq_true_eq] at h
  refine ⟨h.1, h.2.1.1, by omega, h.2.2.1.1, h.2.2.1.2, h.2.2.2, ?_⟩
  rw [expand_step h0 h1, hx]
  have : putTok (s, b, m) a = some (copyBack b m.toNat a) := by
    unfold putTok
    rw [if_neg (fun q => hb q.1), if_pos ⟨h.1, h.2.1.1, h.2.1.2, h.2.2.1.1, h.2.2.1.2⟩]
  rw [this]
  have h40 : ¬ 40 < (copyBack b m.toNat a).length := by rw [copyBack_len]; omega
  simp only [if_neg h40]

theorem expand_bad {xs : List P3} {i : Int} {a : List Int} (h0 : 0 ≤ i) (h1 : i < (xs.length : Int)) {s b m : Int} (hx : xs.getD i.toNat (0, 0, 0) = (s, b, m)) (ha : a.length ≤ 40) (h : tokOk (s, b, m) a.length = false) : expandFrom (xs.drop i.toNat) a = none := by
  rw [expand_step h0 h1, hx]
  unfold tokOk at h
  unfold putTok
  by_cases hb : b = 0
  · simp only [if_pos hb, decide_eq_false_iff_not] at h
    by_cases q : b = 0 ∧ m = 0 ∧ 0 ≤ s ∧ s ≤ 7
    · simp only [if_pos q]
      have : 40 < (a ++ [s]).length := by
        by_cases h2 : (a.length : Int) < 40
        · exact absurd ⟨q.2.1, q.2.2, h2⟩ h
        · simp; omega
      simp only [if_pos this]
    · simp only [if_neg q]
      rw [if_neg (fun q2 => by omega)]
  · simp only [if_neg hb, decide_eq_false_iff_not] at h
    simp only [if_neg (show ¬ (b = 0 ∧ m = 0 ∧ 0 ≤ s ∧ s ≤ 7) from fun q => hb q.1)]
    by_cases q : s = 0 ∧ 1 ≤ b ∧ b ≤ min 16 (a.length : Int) ∧ 2 ≤ m ∧ m ≤ 9
    · simp only [if_pos q]
      have : 40 < (copyBack b m.toNat a).length := by
        rw [copyBack_len]
        by_cases h2 : (a.length : Int) + m ≤ 40
        · exact absurd ⟨q.1, ⟨q.2.1, q.2.2.1⟩, q.2.2.2, h2⟩ h
        · omega
      simp only [if_pos this]
    · simp only [if_neg q]

theorem expand_len : ∀ {xs : List P3} {a r : List Int}, expandFrom xs a = some r → a.length ≤ 40 → r.length ≤ 40
  | [], a, r, h, ha => by rw [expandFrom] at h; cases h; exact ha
  | x :: xs, a, r, h, ha => by
    rw [expandFrom] at h
    split at h
    · cases h
    · split at h
      · cases h
      · exact expand_len h (by omega)

theorem expandD_len (xs : List P3) : (((expand xs).getD []).length : Int) ≤ 40 := by
  cases h : expand xs with
  | none => simp
  | some r => have := expand_len h (by simp); simp; omega

theorem cost_step {xs : List P3} {i : Int} (h0 : 0 ≤ i) (h1 : i < (xs.length : Int)) : costOf (xs.drop i.toNat) = (if (xs.getD i.toNat (0, 0, 0)).2.2 = 0 then 4 else 8) + costOf (xs.drop (i + 1).toNat) := by
  rw [drop_lt (0, 0, 0) h0 h1, costOf]

theorem cost_end {xs : List P3} {i : Int} (h : ¬ i < (xs.length : Int)) : costOf (xs.drop i.toNat) = 0 := by rw [drop_ge h, costOf]

theorem cost'_step {xs : List P3} {i : Int} (h0 : 0 ≤ i) (h1 : i < (xs.length : Int)) : costOf' (xs.drop i.toNat) = (if (xs.getD i.toNat (0, 0, 0)).2.1 = 0 then 4 else 8) + costOf' (xs.drop (i + 1).toNat) := by
  rw [drop_lt (0, 0, 0) h0 h1, costOf']

theorem cost'_end {xs : List P3} {i : Int} (h : ¬ i < (xs.length : Int)) : costOf' (xs.drop i.toNat) = 0 := by rw [drop_ge h, costOf']

theorem cost_bd : ∀ (xs : List P3), 0 ≤ costOf xs ∧ costOf xs ≤ 8 * xs.length
  | [] => by simp [costOf]
  | x :: xs => by have := cost_bd xs; simp only [costOf, List.length_cons]; split <;> omega

theorem cost'_bd : ∀ (xs : List P3), 0 ≤ costOf' xs ∧ costOf' xs ≤ 8 * xs.length
  | [] => by simp [costOf']
  | x :: xs => by have := cost'_bd xs; simp only [costOf', List.length_cons]; split <;> omega

/-- Tokens that are symbols or matches. -/
def tidy (xs : List P3) : Prop := ∀ x ∈ xs, (x.2.1 = 0 ↔ x.2.2 = 0)

theorem cost_eq : ∀ {xs : List P3}, tidy xs → costOf' xs = costOf xs
  | [], _ => rfl
  | x :: xs, h => by
    have h1 := h x (List.mem_cons_self ..)
    have h2 := cost_eq (xs := xs) (fun y hy => h y (List.mem_cons_of_mem _ hy))
    simp only [costOf, costOf', h2]
    by_cases hb : x.2.1 = 0
    · rw [if_pos hb, if_pos (h1.1 hb)]
    · rw [if_neg hb, if_neg (fun q => hb (h1.2 q))]

theorem greedy_tidy (l : List Int) : ∀ (n : Nat) (a : Int), 0 ≤ a → (l.length : Int) - a ≤ n → tidy (greedy l a)
  | 0, a, h0, h => by rw [greedy_end (by omega)]; intro x hx; cases hx
  | n + 1, a, h0, h => by
    by_cases hl : a < (l.length : Int)
    · rw [greedy_step h0 hl]
      obtain ⟨q1, q2, q3, q4⟩ := tokAt_ok l h0 hl
      intro x hx
      rcases List.mem_cons.1 hx with rfl | hx
      · by_cases hz : (tokAt l a).2.2 = 0
        · rw [q3 hz] <;> simp
        · have := q4 hz
          omega
      · exact greedy_tidy l n _ (by omega) (by omega) x hx
    · rw [greedy_end hl]; intro x hx; cases hx

theorem greedyD_tidy (l : List Int) : tidy (greedyD l) := by
  unfold greedyD
  split
  · exact greedy_tidy l l.length 0 (by omega) (by omega)
  · intro x hx; cases hx

/-- A preface and a list are valid, also together. -/
def prefOk (p l : List Int) : Bool := decide (p.length ≤ 16) && LV p && LV (p ++ l)

def prefD (p l : List Int) : List P3 := if prefOk p l = true then greedy (p ++ l) p.length else []

theorem prefOk_iff {p l : List Int} : prefOk p l = true ↔ p.length ≤ 16 ∧ LV p = true ∧ LV (p ++ l) = true := by
  simp [prefOk, and_assoc]

theorem LV_left {p l : List Int} (h : LV (p ++ l) = true) : LV p = true := by
  have h1 := LV_len h
  have h2 := LV_in h
  exact LV_iff.2 ⟨by simp at h1; omega, fun n hn => h2 n (List.mem_append_left _ hn)⟩

theorem LV_right {p l : List Int} (h : LV (p ++ l) = true) : LV l = true := by
  have h1 := LV_len h
  have h2 := LV_in h
  exact LV_iff.2 ⟨by simp at h1; omega, fun n hn => h2 n (List.mem_append_right _ hn)⟩

theorem prefD_len (p l : List Int) : ((prefD p l).length : Int) ≤ (l.length : Int) ∧ ((prefD p l).length : Int) ≤ 40 := by
  unfold prefD
  split
  · rename_i h
    have h' := prefOk_iff.1 h
    have := greedy_len (p ++ l) (p ++ l).length p.length (by omega) (by simp; omega) (by omega)
    have := LV_len h'.2.2
    simp at this
    simp at *
    omega
  · simp

theorem prefD_tidy (p l : List Int) : tidy (prefD p l) := by
  unfold prefD
  split
  · exact greedy_tidy (p ++ l) (p ++ l).length p.length (by omega) (by omega)
  · intro x hx; cases hx

/-- What tokens behind a preface give. -/
def pexpD (p : List Int) (ts : List P3) : Option (List Int) := if p.length ≤ 16 ∧ LV p = true then (expandFrom ts p).map fun r => r.drop p.length else none

theorem expand_syms : ∀ (q acc : List Int) (ts : List P3), (∀ x ∈ q, 0 ≤ x ∧ x ≤ 7) → acc.length + q.length ≤ 40 → expandFrom ((q.map fun s => (s, 0, 0)) ++ ts) acc = expandFrom ts (acc ++ q)
  | [], acc, ts, _, _ => by simp
  | s :: q, acc, ts, hx, hl => by
    rw [List.map_cons, List.cons_append, expandFrom]
    have hp : putTok (s, 0, 0) acc = some (acc ++ [s]) := if_pos ⟨rfl, rfl, hx s (List.mem_cons_self ..)⟩
    rw [hp]
    simp only [List.length_cons] at hl
    have h40 : ¬ 40 < (acc ++ [s]).length := by simp; omega
    simp only [if_neg h40]
    rw [expand_syms q (acc ++ [s]) ts (fun x hq => hx x (List.mem_cons_of_mem _ hq)) (by simp; omega)]
    simp

theorem expand_pref {p : List Int} {ts : List P3} (h : p.length ≤ 16 ∧ LV p = true) : expand ((p.map fun s => (s, 0, 0)) ++ ts) = expandFrom ts p := by
  unfold expand
  rw [expand_syms p [] ts (LV_in h.2) (by simp; omega)]
  simp

theorem pexpD_len (p : List Int) (ts : List P3) : (((pexpD p ts).getD []).length : Int) ≤ 40 := by
  unfold pexpD
  split
  · rename_i hp
    cases h : expandFrom ts p with
    | none => simp
    | some r => have := expand_len h (by omega); simp; omega
  · simp

def gainD (p l : List Int) : Int := if prefOk p l = true then costOf (greedyD l) - costOf (prefD p l) else 0

end Go.Mx

/-
  M5: laws of prefaces.
-/
namespace Go.Mx

theorem copyBack_pre (b : Int) : ∀ (n : Nat) (a : List Int), ∃ s, copyBack b n a = a ++ s
  | 0, a => ⟨[], by simp [copyBack]⟩
  | n + 1, a => by
    obtain ⟨s, hs⟩ := copyBack_pre b n (a ++ [a.getD ((a.length : Int) - b).toNat 0])
    exact ⟨_, by rw [copyBack, hs, List.append_assoc]⟩

theorem putTok_pre {x : P3} {a a' : List Int} (h : putTok x a = some a') : ∃ s, a' = a ++ s := by
  unfold putTok at h
  split at h
  · cases h; exact ⟨_, rfl⟩
  · split at h
    · cases h; exact copyBack_pre _ _ _
    · cases h

/-- What is expanded begins with what was there. -/
theorem expand_pre : ∀ {xs : List P3} {a r : List Int}, expandFrom xs a = some r → ∃ s, r = a ++ s
  | [], a, r, h => by rw [expandFrom] at h; cases h; exact ⟨[], by simp⟩
  | x :: xs, a, r, h => by
    rw [expandFrom] at h
    split at h
    · cases h
    · rename_i a' ha
      split at h
      · cases h
      · obtain ⟨s, rfl⟩ := putTok_pre ha
        obtain ⟨s', rfl⟩ := expand_pre h
        exact ⟨s ++ s', by simp⟩

/-- Copied symbols are those of the list. -/
theorem copyBack_run {L : List Int} {b : Int} (hb : 1 ≤ b) : ∀ (n k : Nat) (a : Int), b ≤ a → (n : Int) ≤ cpk k (L.drop a.toNat) (L.drop (a - b).toNat) → copyBack b n (L.take a.toNat) = L.take (a.toNat + n)
  | 0, k, a, h, hc => by simp [copyBack]
  | n + 1, k, a, h, hc => by
    have hl : a < (L.length : Int) := by
      by_cases q : a < (L.length : Int)
      · exact q
      · rw [cpk_end q] at hc; omega
    cases k with
    | zero => rw [cpk_zero] at hc; omega
    | succ k =>
      rw [cpk_step (by omega) hl (by omega) (by omega)] at hc
      split at hc
      · rename_i he
        rw [show a - b + 1 = a + 1 - b by omega] at hc
        have := copyBack_run (L := L) hb n k (a + 1) (by omega) (by omega)
        have ht := len_take (l := L) (show 0 ≤ a by omega) (by omega)
        have hg : (L.take a.toNat).getD (((L.take a.toNat).length : Int) - b).toNat 0 = L.getD a.toNat 0 := by
          rw [ht, he]
          have : (a - b).toNat < a.toNat := by omega
          simp [List.getD_eq_getElem?_getD, List.getElem?_take, this]
        rw [copyBack, hg, ← take_lt 0 (by omega) hl, this]
        congr 1; omega
      · omega

theorem putTok_run {L : List Int} (hv : LV L = true) {a : Int} (h0 : 0 ≤ a) (h1 : a < (L.length : Int)) : putTok (tokAt L a) (L.take a.toNat) = some (L.take (a + max (tokAt L a).2.2 1).toNat) := by
  obtain ⟨q1, q2, q3, q4⟩ := tokAt_ok L h0 h1
  have ht := len_take (l := L) h0 (by omega)
  by_cases hz : (tokAt L a).2.2 = 0
  · rw [q3 hz]
    have hg := LV_in hv (L.getD a.toNat 0) (by
      have : a.toNat < L.length := by omega
      simp [List.getD_eq_getElem?_getD, this])
    have e : (a + max (L.getD a.toNat 0, (0 : Int), (0 : Int)).2.2 1).toNat = (a + 1).toNat := by
      have : max (0 : Int) 1 = 1 := by omega
      simp [this]
    rw [e, take_lt 0 h0 h1]
    exact if_pos ⟨rfl, rfl, hg⟩
  · obtain ⟨p1, p2, p3, p4, p5, p6⟩ := q4 hz
    unfold putTok
    rw [if_neg (by omega), if_pos (by omega)]
    have := copyBack_run (L := L) p2 (tokAt L a).2.2.toNat 9 a (by omega) (by have := p6; unfold mlong at this; omega)
    rw [this]
    congr 2; omega

/-- Greedy tokens lead back to the list. -/
theorem greedy_back {L : List Int} (hv : LV L = true) : ∀ (n : Nat) (a : Int), 0 ≤ a → a ≤ (L.length : Int) → (L.length : Int) - a ≤ n → expandFrom (greedy L a) (L.take a.toNat) = some L
  | 0, a, h0, h1, h => by rw [greedy_end (by omega), expandFrom, take_ge (by omega)]
  | n + 1, a, h0, h1, h => by
    by_cases hl : a < (L.length : Int)
    · rw [greedy_step h0 hl, expandFrom, putTok_run hv h0 hl]
      obtain ⟨q1, q2, q3, q4⟩ := tokAt_ok L h0 hl
      have hlen := LV_len hv
      have ht := len_take (l := L) (i := a + max (tokAt L a).2.2 1) (by omega) q2
      have h40 : ¬ 40 < (L.take (a + max (tokAt L a).2.2 1).toNat).length := by omega
      simp only [if_neg h40]
      exact greedy_back hv n _ (by omega) (by omega) (by omega)
    · rw [greedy_end hl, expandFrom, take_ge hl]

theorem greedyD_back {l : List Int} (hv : LV l = true) : expand (greedyD l) = some l := by
  have := greedy_back hv l.length 0 (by omega) (by omega) (by omega)
  unfold greedyD expand
  rw [if_pos hv]
  simpa using this

theorem prefOk_nil {p : List Int} : prefOk p [] = (decide (p.length ≤ 16) && LV p) := by
  simp [prefOk, Bool.and_assoc]

theorem pref_cond {p : List Int} : (decide (p.length ≤ 16) && LV p) = true ↔ p.length ≤ 16 ∧ LV p = true := by simp

theorem pexpD_no {p : List Int} {ts : List P3} (h : ¬ (decide (p.length ≤ 16) && LV p) = true) : pexpD p ts = none := if_neg (fun q => h (pref_cond.2 q))

theorem pexpD_yes {p : List Int} {ts : List P3} (h : (decide (p.length ≤ 16) && LV p) = true) : pexpD p ts = (expand ((p.map fun s => (s, 0, 0)) ++ ts)).map fun r => r.drop p.length := by
  have h' := pref_cond.1 h
  rw [expand_pref h']
  exact if_pos h'

/-- What a preface and tokens give lies behind the preface. -/
theorem pexpD_all {p : List Int} {ts : List P3} {r : List Int} (h : pexpD p ts = some r) : expand ((p.map fun s => (s, 0, 0)) ++ ts) = some (p ++ r) := by
  unfold pexpD at h
  split at h
  · rename_i hp
    rw [expand_pref hp]
    cases he : expandFrom ts p with
    | none => rw [he] at h; cases h
    | some q =>
      rw [he] at h
      obtain ⟨s, rfl⟩ := expand_pre he
      simp at h
      rw [h]
  · cases h

theorem pexp_len {p : List Int} {ts : List P3} {r : List Int} (hp : p.length ≤ 16 ∧ LV p = true) (h : expand ((p.map fun s => (s, 0, 0)) ++ ts) = some r) : p.length ≤ r.length := by
  rw [expand_pref hp] at h
  obtain ⟨s, rfl⟩ := expand_pre h
  simp

/-- A preface is undone. -/
theorem pref_back {p l : List Int} (h : prefOk p l = true) : pexpD p (prefD p l) = some l := by
  obtain ⟨h1, h2, h3⟩ := prefOk_iff.1 h
  have := greedy_back h3 (p ++ l).length p.length (by omega) (by simp; omega) (by omega)
  rw [show ((p.length : Int).toNat) = p.length by omega, List.take_left] at this
  unfold pexpD prefD
  rw [if_pos ⟨h1, h2⟩, if_pos h, this]
  simp

theorem prefD_nil (l : List Int) : prefD [] l = greedyD l := by
  have : prefOk [] l = LV l := by
    have h : LV ([] : List Int) = true := rfl
    unfold prefOk
    rw [h]; simp
  unfold prefD greedyD
  rw [this]; rfl

theorem gainD_nil (l : List Int) : gainD [] l = 0 := by
  unfold gainD
  rw [prefD_nil]
  split <;> omega

theorem pexpD_nil (ts : List P3) : pexpD [] ts = expand ts := by
  unfold pexpD expand
  rw [if_pos ⟨by simp, rfl⟩]
  cases expandFrom ts [] <;> simp

/-- Tokens that are symbols or matches, by their place. -/
def tidy2 (xs : List P3) : Prop := ∀ x ∈ xs, (0 < x.2.1 ↔ ¬ x.2.2 = 0)

theorem greedy_tidy2 (l : List Int) : ∀ (n : Nat) (a : Int), 0 ≤ a → (l.length : Int) - a ≤ n → tidy2 (greedy l a)
  | 0, a, h0, h => by rw [greedy_end (by omega)]; intro x hx; cases hx
  | n + 1, a, h0, h => by
    by_cases hl : a < (l.length : Int)
    · rw [greedy_step h0 hl]
      obtain ⟨q1, q2, q3, q4⟩ := tokAt_ok l h0 hl
      intro x hx
      rcases List.mem_cons.1 hx with rfl | hx
      · by_cases hz : (tokAt l a).2.2 = 0
        · rw [q3 hz] <;> simp
        · have := q4 hz
          omega
      · exact greedy_tidy2 l n _ (by omega) (by omega) x hx
    · rw [greedy_end hl]; intro x hx; cases hx

theorem prefD_tidy2 (p l : List Int) : tidy2 (prefD p l) := by
  unfold prefD
  split
  · exact greedy_tidy2 (p ++ l) (p ++ l).length p.length (by omega) (by omega)
  · intro x hx; cases hx

theorem tidy2_at {xs : List P3} (h : tidy2 xs) {i : Int} (h0 : 0 ≤ i) (h1 : i < (xs.length : Int)) : 0 < (xs.getD i.toNat (0, 0, 0)).2.1 ↔ ¬ (xs.getD i.toNat (0, 0, 0)).2.2 = 0 := by
  have : i.toNat < xs.length := by omega
  exact h _ (by simp [List.getD_eq_getElem?_getD, this])

/-- The best match is as long as any. -/
theorem mfrom_max {l : List Int} {a : Int} : ∀ (n : Nat) (k : Int) (b : P3), b.2.2 ≤ (mfrom l a n k b).2.2 ∧ ∀ g, k ≤ g → g < k + n → 2 ≤ mlong l a g → mlong l a g ≤ (mfrom l a n k b).2.2
  | 0, k, b => ⟨by simp [mfrom], fun g h0 h1 => by omega⟩
  | n + 1, k, b => by
    rw [mfrom_step]
    obtain ⟨q1, q2⟩ := mfrom_max (l := l) (a := a) n (k + 1) (if 2 ≤ mlong l a k ∧ b.2.2 < mlong l a k then (0, k, mlong l a k) else b)
    generalize mfrom l a n (k + 1) (if 2 ≤ mlong l a k ∧ b.2.2 < mlong l a k then (0, k, mlong l a k) else b) = r at *
    have hk : b.2.2 ≤ r.2.2 ∧ (2 ≤ mlong l a k → mlong l a k ≤ r.2.2) := by
      split at q1
      · rename_i h; simp only at q1; exact ⟨by omega, fun _ => q1⟩
      · rename_i h; exact ⟨q1, fun h2 => by omega⟩
    refine ⟨hk.1, fun g h0 h1 h2 => ?_⟩
    by_cases e : g = k
    · subst e; exact hk.2 h2
    · exact q2 g (by omega) (by omega) h2

theorem cpk_self : ∀ (k : Nat) (a b : List Int), ((min k a.length : Nat) : Int) ≤ cpk k a (a ++ b)
  | 0, a, b => by rw [cpk_zero]; simp
  | k + 1, [], b => by simp [cpk_nonneg]
  | k + 1, x :: a, b => by
    have := cpk_self k a b
    rw [List.cons_append, cpk, if_pos rfl]
    simp only [List.length_cons]
    omega

/-- A list that is its own preface is one match. -/
theorem pref_self {l : List Int} (hv : LV l = true) (h2 : 2 ≤ l.length) (h9 : l.length ≤ 9) : ∃ x : P3, prefD l l = [x] ∧ x.2.2 = (l.length : Int) := by
  have hv2 : LV (l ++ l) = true := LV_iff.2 ⟨by simp; omega, fun n hn => by rcases List.mem_append.1 hn with q | q <;> exact LV_in hv n q⟩
  have hok : prefOk l l = true := prefOk_iff.2 ⟨by omega, hv, hv2⟩
  have hlen : ((l ++ l).length : Int) = l.length + l.length := by simp
  have hm : (l.length : Int) ≤ mlong (l ++ l) l.length l.length := by
    unfold mlong
    have := cpk_self 9 l l
    rw [show ((l.length : Int)).toNat = l.length by omega, show ((l.length : Int) - l.length).toNat = 0 by omega, List.drop_left, List.drop_zero]
    omega
  have hmax := (mfrom_max (l := l ++ l) (a := (l.length : Int)) (min 16 (l.length : Int)).toNat 1 (0, 0, 0)).2 l.length (by omega) (by omega) (by omega)
  have hat : (l.length : Int) ≤ (matchAt (l ++ l) l.length).2.2 := by
    have : (l.length : Int) ≤ (mfrom (l ++ l) l.length (min 16 (l.length : Int)).toNat 1 (0, 0, 0)).2.2 := by omega
    exact this
  have ht : tokAt (l ++ l) l.length = matchAt (l ++ l) l.length := if_pos (by omega)
  obtain ⟨q1, q2, q3, q4⟩ := tokAt_ok (l ++ l) (a := l.length) (by omega) (by omega)
  refine ⟨tokAt (l ++ l) l.length, ?_, by rw [ht] at *; omega⟩
  unfold prefD
  rw [if_pos hok, greedy_step (by omega) (by omega), greedy_end (by rw [ht] at *; omega)]

end Go.Mx

/-
  M6: entries.
-/
namespace Go.Mx

abbrev En := Int × List Int

def sumIn : List En → Int
  | [] => 0
  | x :: xs => (x.2.length : Int) + sumIn xs

/-- How many numbers entries have, with one for each. -/
def szE (l : List En) : Int := l.length + sumIn l

/-- Lists that are no longer than a list can be. -/
def Ez (l : List En) : Prop := ∀ x ∈ l, (((x.2 : List Int).length : Nat) : Int) ≤ 9223372036854775807

/-- The first entries' lists of these are valid, the names rise behind p. -/
def entFrom : Option Int → List En → Bool
  | _, [] => true
  | p, x :: xs => decide (1 ≤ x.1 ∧ x.1 ≤ 20) && LV x.2 && (match p with | none => true | some n => decide (n < x.1)) && entFrom (some x.1) xs

def entOk (l : List En) : Bool := entFrom none l && decide (l.length ≤ 5)

theorem sumIn_nonneg : ∀ (l : List En), 0 ≤ sumIn l
  | [] => by simp [sumIn]
  | x :: xs => by have := sumIn_nonneg xs; simp only [sumIn]; omega

theorem sumIn_append : ∀ (a b : List En), sumIn (a ++ b) = sumIn a + sumIn b
  | [], b => by simp [sumIn]
  | x :: a, b => by simp only [List.cons_append, sumIn, sumIn_append a b]; omega

theorem szE_append (a b : List En) : szE (a ++ b) = szE a + szE b := by simp only [szE, sumIn_append, List.length_append]; omega

theorem sumIn_step {l : List En} {i : Int} (h0 : 0 ≤ i) (h1 : i < (l.length : Int)) : sumIn (l.drop i.toNat) = ((l.getD i.toNat (0, [])).2.length : Int) + sumIn (l.drop (i + 1).toNat) := by
  rw [drop_lt (0, []) h0 h1, sumIn]

theorem sumIn_end {l : List En} {i : Int} (h : ¬ i < (l.length : Int)) : sumIn (l.drop i.toNat) = 0 := by rw [drop_ge h, sumIn]

theorem sumIn_mem : ∀ {l : List En} {x : En}, x ∈ l → (x.2.length : Int) ≤ sumIn l
  | y :: l, x, h => by
    have := sumIn_nonneg l
    rcases List.mem_cons.1 h with rfl | h
    · simp only [sumIn]; omega
    · have := sumIn_mem h; simp only [sumIn]; omega

theorem ent_len {l : List En} {i : Int} (h0 : 0 ≤ i) (h1 : i < (l.length : Int)) : ((l.getD i.toNat (0, [])).2.length : Int) ≤ szE l := by
  have : i.toNat < l.length := by omega
  have := sumIn_mem (l := l) (x := l.getD i.toNat (0, [])) (by simp [List.getD_eq_getElem?_getD, this])
  unfold szE
  omega

theorem ent_Ez {l : List En} (h : Ez l) {i : Int} (h0 : 0 ≤ i) (h1 : i < (l.length : Int)) : ((l.getD i.toNat (0, [])).2.length : Int) ≤ 9223372036854775807 := by
  have : i.toNat < l.length := by omega
  exact h _ (by simp [List.getD_eq_getElem?_getD, this])

/-- The name before a place. -/
def prevOf (l : List En) (i : Int) : Option Int := if 0 < i then some (l.getD (i - 1).toNat (0, [])).1 else none

theorem ent_step {l : List En} {i : Int} (h0 : 0 ≤ i) (h1 : i < (l.length : Int)) : entFrom (prevOf l i) (l.drop i.toNat) =
    (decide (1 ≤ (l.getD i.toNat (0, [])).1 ∧ (l.getD i.toNat (0, [])).1 ≤ 20) && LV (l.getD i.toNat (0, [])).2 && (if 0 < i then decide ((l.getD (i - 1).toNat (0, [])).1 < (l.getD i.toNat (0, [])).1) else true) && entFrom (prevOf l (i + 1)) (l.drop (i + 1).toNat)) := by
  have e : prevOf l (i + 1) = some (l.getD i.toNat (0, [])).1 := by
    unfold prevOf
    rw [if_pos (by omega), show i + 1 - 1 = i by omega]
  rw [drop_lt (0, []) h0 h1, entFrom.eq_def, e]
  simp only
  congr 2
  unfold prevOf
  by_cases h : 0 < i
  · simp only [if_pos h]
  · simp only [if_neg h]

theorem ent_end {l : List En} {i : Int} (h : ¬ i < (l.length : Int)) : entFrom (prevOf l i) (l.drop i.toNat) = true := by
  rw [drop_ge h, entFrom.eq_def]

theorem ent_all {l : List En} {x : En} : ∀ {p : Option Int}, entFrom p l = true → x ∈ l → LV x.2 = true ∧ 1 ≤ x.1 ∧ x.1 ≤ 20 := by
  induction l with
  | nil => intro p h hx; cases hx
  | cons y l ih =>
    intro p h hx
    simp only [entFrom, Bool.and_eq_true, decide_eq_true_eq] at h
    rcases List.mem_cons.1 hx with rfl | hx
    · exact ⟨h.1.1.2, h.1.1.1⟩
    · exact ih h.2 hx

theorem entFrom_weak {p q : Option Int} {l : List En} (h : entFrom p l = true) (hq : ∀ n, q = some n → ∃ m, p = some m ∧ n ≤ m) : entFrom q l = true := by
  cases l with
  | nil => rfl
  | cons x l =>
    simp only [entFrom, Bool.and_eq_true, decide_eq_true_eq] at h ⊢
    refine ⟨⟨h.1.1, ?_⟩, h.2⟩
    cases q with
    | none => rfl
    | some n =>
      obtain ⟨m, rfl, hm⟩ := hq n rfl
      have := h.1.2
      simp only [decide_eq_true_eq] at this ⊢
      omega

theorem entFrom_app : ∀ {a b : List En} {p : Option Int}, entFrom p (a ++ b) = true → entFrom p a = true ∧ ∃ q, entFrom q b = true ∧ (∀ x, a.getLast? = some x → q = some x.1) ∧ (a = [] → q = p)
  | [], b, p, h => ⟨rfl, p, h, by simp, fun _ => rfl⟩
  | x :: a, b, p, h => by
    simp only [List.cons_append, entFrom, Bool.and_eq_true, decide_eq_true_eq] at h
    obtain ⟨q1, q, q2, q3, q4⟩ := entFrom_app h.2
    refine ⟨by simp only [entFrom, Bool.and_eq_true, decide_eq_true_eq]; exact ⟨h.1, q1⟩, q, q2, fun y hy => ?_, by simp⟩
    cases a with
    | nil => simp at hy; subst hy; exact q4 rfl
    | cons z a => rw [List.getLast?_cons_cons] at hy; exact q3 y hy

/-- Entries may be missing. -/
theorem entFrom_without : ∀ {a b : List En} {x : En} {p : Option Int}, entFrom p (a ++ x :: b) = true → entFrom p (a ++ b) = true
  | [], b, x, p, h => by
    simp only [List.nil_append, entFrom, Bool.and_eq_true, decide_eq_true_eq] at h ⊢
    refine entFrom_weak h.2 fun n hn => ?_
    subst hn
    have := h.1.2
    simp only [decide_eq_true_eq] at this
    exact ⟨x.1, rfl, by omega⟩
  | y :: a, b, x, p, h => by
    simp only [List.cons_append, entFrom, Bool.and_eq_true, decide_eq_true_eq] at h ⊢
    exact ⟨h.1, entFrom_without h.2⟩

/-- Entries are not twice. -/
theorem entFrom_twice : ∀ {a b : List En} {x : En} {p : Option Int}, entFrom p (a ++ x :: x :: b) = false
  | [], b, x, p => by
    simp only [List.nil_append, entFrom]
    have : decide (x.1 < x.1) = false := by simp
    simp [this]
  | y :: a, b, x, p => by
    simp only [List.cons_append, entFrom]
    rw [entFrom_twice (a := a)]; simp

theorem entOk_iff {l : List En} : entOk l = true ↔ entFrom none l = true ∧ l.length ≤ 5 := by simp [entOk]

theorem ent_part {l : List En} {k : Int} (h : entOk l = true) (h0 : 0 ≤ k) (h1 : k < (l.length : Int)) :
    entOk (l.take k.toNat ++ l.drop (k + 1).toNat) = true ∧ entOk (l.take (k + 1).toNat ++ l.drop k.toNat) = false := by
  obtain ⟨q1, q2⟩ := entOk_iff.1 h
  have e : l = l.take k.toNat ++ (l.getD k.toNat (0, [])) :: l.drop (k + 1).toNat := by
    rw [← drop_lt (0, []) h0 h1, List.take_append_drop]
  constructor
  · refine entOk_iff.2 ⟨entFrom_without (x := l.getD k.toNat (0, [])) (by rw [← e]; exact q1), ?_⟩
    simp; omega
  · unfold entOk
    rw [take_lt (0, []) h0 h1, drop_lt (0, []) h0 h1, List.append_assoc, List.cons_append, List.nil_append, entFrom_twice]
    rfl

theorem szE_nonneg (l : List En) : 0 ≤ szE l := by have := sumIn_nonneg l; unfold szE; omega

theorem szE_take (l : List En) (i : Nat) : szE (l.take i) ≤ szE l := by
  have h := szE_append (l.take i) (l.drop i)
  rw [List.take_append_drop] at h
  have := szE_nonneg (l.drop i)
  omega

theorem szE_drop (l : List En) (i : Nat) : szE (l.drop i) ≤ szE l := by
  have h := szE_append (l.take i) (l.drop i)
  rw [List.take_append_drop] at h
  have := szE_nonneg (l.take i)
  omega

theorem szE_snoc (o : List En) (n : Int) (x : List Int) : szE (o ++ [(n, x)]) = szE o + 1 + x.length := by
  rw [szE_append]; simp [szE, sumIn]; omega

theorem sumIn_set : ∀ (o : List En) (i : Nat) (n : Int), sumIn (o.set i (n, (o.getD i (0, [])).2)) = sumIn o
  | [], i, n => by simp
  | x :: o, 0, n => by simp [sumIn]
  | x :: o, i + 1, n => by
    have := sumIn_set o i n
    simp only [List.getD_cons_succ, List.set_cons_succ, sumIn, this]

theorem szE_set (o : List En) (i : Nat) (n : Int) : szE (o.set i (n, (o.getD i (0, [])).2)) = szE o := by
  unfold szE; rw [sumIn_set]; simp

end Go.Mx

/-
  M7: runs, counts and lengths of codes.
-/
namespace Go.Mx

abbrev R2 := Int × Int

/-- A symbol behind runs. -/
def runsAdd (o : List R2) (s : Int) : List R2 :=
  match o.getLast? with
  | none => [(s, 1)]
  | some x => if x.1 = s then o.dropLast ++ [(s, x.2 + 1)] else o ++ [(s, 1)]

def runs (l : List Int) : List R2 := l.foldl runsAdd []

def runsD (l : List Int) : List R2 := if LV l = true then runs l else []

theorem runs_snoc (l : List Int) (s : Int) : runs (l ++ [s]) = runsAdd (runs l) s := by unfold runs; rw [List.foldl_append]; rfl

theorem runsAdd_last (q : List R2) (x k s : Int) : runsAdd (q ++ [(x, k)]) s = if x = s then q ++ [(s, k + 1)] else q ++ [(x, k)] ++ [(s, 1)] := by
  unfold runsAdd
  rw [List.getLast?_concat]
  simp only [List.dropLast_concat]

theorem runsAdd_nil (s : Int) : runsAdd [] s = [(s, 1)] := rfl

theorem runs_last : ∀ (n : Nat) (l : List Int), l.length = n + 1 → ∃ q k, runs l = q ++ [(l.getD n 0, k)] ∧ 1 ≤ k ∧ k + (q.length : Int) ≤ n + 1
  | n, l, h => by
    have hl : l = l.take n ++ [l.getD n 0] := by
      have h1 := take_lt (l := l) 0 (i := (n : Int)) (by omega) (by omega)
      rw [show ((n : Int) + 1).toNat = l.length by omega, List.take_length, show ((n : Int)).toNat = n by omega] at h1
      exact h1
    have hr : runs l = runsAdd (runs (l.take n)) (l.getD n 0) := by
      conv => lhs; rw [hl]
      exact runs_snoc _ _
    cases n with
    | zero => exact ⟨[], 1, by rw [hr, List.take_zero]; rfl, by omega, by simp⟩
    | succ n =>
      obtain ⟨q, k, h1, h2, h3⟩ := runs_last n (l.take (n + 1)) (by simp; omega)
      rw [h1, runsAdd_last] at hr
      split at hr
      · exact ⟨q, k + 1, hr, by omega, by omega⟩
      · exact ⟨_, 1, hr, by omega, by simp; omega⟩

theorem runs_take {l : List Int} {i : Int} (h0 : 0 < i) (h1 : i ≤ (l.length : Int)) : ∃ q k, runs (l.take i.toNat) = q ++ [(l.getD (i - 1).toNat 0, k)] ∧ 1 ≤ k ∧ k + (q.length : Int) ≤ i := by
  obtain ⟨q, k, h2, h3, h4⟩ := runs_last (i.toNat - 1) (l.take i.toNat) (by simp; omega)
  refine ⟨q, k, ?_, h3, by omega⟩
  rw [h2]
  have e : (l.take i.toNat).getD (i.toNat - 1) 0 = l.getD (i - 1).toNat 0 := by
    rw [show (i - 1).toNat = i.toNat - 1 by omega]
    have : i.toNat - 1 < i.toNat := by omega
    simp [List.getD_eq_getElem?_getD, List.getElem?_take, this]
  rw [e]

theorem runs_step {l : List Int} {i : Int} (h0 : 0 ≤ i) (h1 : i < (l.length : Int)) : runs (l.take (i + 1).toNat) = runsAdd (runs (l.take i.toNat)) (l.getD i.toNat 0) := by
  rw [take_lt 0 h0 h1, runs_snoc]

theorem runs_len (l : List Int) : (runs l).length ≤ l.length := by
  cases h : l.length with
  | zero => rw [List.eq_nil_of_length_eq_zero h]; simp [runs]
  | succ n =>
    obtain ⟨q, k, h1, h2, h3⟩ := runs_last n l h
    rw [h1]; simp; omega

theorem last_get {α : Type} (q : List α) (y d : α) : (q ++ [y]).getD (((q ++ [y]).length : Int) - 1).toNat d = y := by
  simp [List.getD_eq_getElem?_getD]

theorem last_set {α : Type} (q : List α) (y z : α) : (q ++ [y]).set (((q ++ [y]).length : Int) - 1).toNat z = q ++ [z] := by
  simp [List.set_append]

/-- How often a number is in a list. -/
def cnt (s : Int) : List Int → Int
  | [] => 0
  | x :: xs => (if x = s then 1 else 0) + cnt s xs

def countsL (l : List Int) : List Int := [cnt 0 l, cnt 1 l, cnt 2 l, cnt 3 l, cnt 4 l, cnt 5 l, cnt 6 l, cnt 7 l]

def sumL : List Int → Int
  | [] => 0
  | x :: xs => x + sumL xs

theorem cnt_append (s : Int) : ∀ (a b : List Int), cnt s (a ++ b) = cnt s a + cnt s b
  | [], b => by simp [cnt]
  | x :: a, b => by simp only [List.cons_append, cnt, cnt_append s a b]; omega

theorem cnt_bd (s : Int) : ∀ (l : List Int), 0 ≤ cnt s l ∧ cnt s l ≤ (l.length : Int)
  | [] => by simp [cnt]
  | x :: l => by have := cnt_bd s l; simp only [cnt, List.length_cons]; split <;> omega

theorem countsL_snoc (l : List Int) {s : Int} (h0 : 0 ≤ s) (h1 : s ≤ 7) : (countsL l).set s.toNat ((countsL l).getD s.toNat 0 + 1) = countsL (l ++ [s]) := by
  have h : s = 0 ∨ s = 1 ∨ s = 2 ∨ s = 3 ∨ s = 4 ∨ s = 5 ∨ s = 6 ∨ s = 7 := by omega
  unfold countsL
  simp only [cnt_append, cnt]
  rcases h with rfl | rfl | rfl | rfl | rfl | rfl | rfl | rfl <;> simp

theorem countsL_bd (l : List Int) {s : Int} (h0 : 0 ≤ s) (h1 : s ≤ 7) : 0 ≤ (countsL l).getD s.toNat 0 ∧ (countsL l).getD s.toNat 0 ≤ (l.length : Int) := by
  have h : s = 0 ∨ s = 1 ∨ s = 2 ∨ s = 3 ∨ s = 4 ∨ s = 5 ∨ s = 6 ∨ s = 7 := by omega
  unfold countsL
  rcases h with rfl | rfl | rfl | rfl | rfl | rfl | rfl | rfl <;> exact cnt_bd _ l

theorem countsL_len (l : List Int) : (countsL l).length = 8 := rfl

theorem LV_at {l : List Int} (h : LV l = true) {i : Int} (h0 : 0 ≤ i) (h1 : i < (l.length : Int)) : 0 ≤ l.getD i.toNat 0 ∧ l.getD i.toNat 0 ≤ 7 := by
  have : i.toNat < l.length := by omega
  exact LV_in h _ (by simp [List.getD_eq_getElem?_getD, this])

theorem sumL_step {l : List Int} {i : Int} (h0 : 0 ≤ i) (h1 : i < (l.length : Int)) : sumL (l.drop i.toNat) = l.getD i.toNat 0 + sumL (l.drop (i + 1).toNat) := by
  rw [drop_lt 0 h0 h1, sumL]

theorem sumL_end {l : List Int} {i : Int} (h : ¬ i < (l.length : Int)) : sumL (l.drop i.toNat) = 0 := by rw [drop_ge h, sumL]

def cntOk (l : List Int) : Bool := decide (l.length = 8) && allIn 0 999 l

/-- Groups: a weight and symbols. The place of the first least weight behind a best place. -/
def leastFrom (g : List En) : List En → Int → Int → Int
  | [], _, best => best
  | x :: xs, k, best => leastFrom g xs (k + 1) (if x.1 < (g.getD best.toNat (0, [])).1 then k else best)

def leastAt (g : List En) : Int := leastFrom g g 0 0

def without (g : List En) (k : Int) : List En := g.take k.toNat ++ g.drop (k + 1).toNat

end Go.Mx

/-
  M8: lengths of codes.
-/
namespace Go.Mx

def bump (o : List Int) (s : Int) : List Int := o.set s.toNat (o.getD s.toNat 0 + 1)

def bumps (o : List Int) (l : List Int) : List Int := l.foldl bump o

/-- The least group, and the groups without it. -/
def hA (g : List En) : En := g.getD (leastAt g).toNat (0, [])
def hG (g : List En) : List En := without g (leastAt g)
/-- Two groups joined. -/
def hC (g : List En) : En := ((hA g).1 + (hA (hG g)).1, (hA g).2 ++ (hA (hG g)).2)
def hN (g : List En) : List En := hG (hG g) ++ [hC g]

def huff : Nat → List En → List Int → List Int
  | 0, _, o => o
  | n + 1, g, o => if 1 < g.length then huff n (hN g) (bumps o (hC g).2) else o

def groups0 : Int → List Int → List En
  | _, [] => []
  | k, n :: ns => (if 0 < n then [(n, [k])] else []) ++ groups0 (k + 1) ns

def zeros8 : List Int := List.replicate 8 0

def lengths0 (g : List En) : List Int := if g.length = 1 then zeros8.set ((g.getD 0 (0, [])).2.getD 0 0).toNat 1 else zeros8

def lengthsD (c : List Int) : Option (List Int) := if cntOk c = true ∧ ¬ sumL c = 0 then some (huff (groups0 0 c).length (groups0 0 c) (lengths0 (groups0 0 c))) else none

def sumW : List En → Int
  | [] => 0
  | x :: xs => x.1 + sumW xs

theorem sumW_append : ∀ (a b : List En), sumW (a ++ b) = sumW a + sumW b
  | [], b => by simp [sumW]
  | x :: a, b => by simp only [List.cons_append, sumW, sumW_append a b]; omega

theorem leastFrom_range (g : List En) : ∀ (xs : List En) (k best : Int), 0 ≤ best → best < k + xs.length → 0 ≤ k → 0 ≤ leastFrom g xs k best ∧ leastFrom g xs k best < k + xs.length
  | [], k, best, h0, h1, h2 => by simp at h1; simp [leastFrom]; omega
  | x :: xs, k, best, h0, h1, h2 => by
    have e : k + ((x :: xs).length : Int) = k + 1 + xs.length := by simp; omega
    rw [e] at h1 ⊢
    rw [leastFrom]
    split
    · exact leastFrom_range g xs (k + 1) k h2 (by omega) (by omega)
    · exact leastFrom_range g xs (k + 1) best h0 h1 (by omega)

theorem leastAt_range {g : List En} (h : 0 < (g.length : Int)) : 0 ≤ leastAt g ∧ leastAt g < (g.length : Int) := by
  have := leastFrom_range g g 0 0 (by omega) (by omega) (by omega)
  unfold leastAt; omega

theorem least_step {g : List En} {i best : Int} (h0 : 0 ≤ i) (h1 : i < (g.length : Int)) : leastFrom g (g.drop i.toNat) i best = leastFrom g (g.drop (i + 1).toNat) (i + 1) (if (g.getD i.toNat (0, [])).1 < (g.getD best.toNat (0, [])).1 then i else best) := by
  rw [drop_lt (0, []) h0 h1, leastFrom]

theorem least_end {g : List En} {i best : Int} (h : ¬ i < (g.length : Int)) : leastFrom g (g.drop i.toNat) i best = best := by rw [drop_ge h, leastFrom]

/-- A list and the element at a place. -/
theorem without_split {g : List En} {k : Int} (h0 : 0 ≤ k) (h1 : k < (g.length : Int)) : g = g.take k.toNat ++ g.getD k.toNat (0, []) :: g.drop (k + 1).toNat := by
  rw [← drop_lt (0, []) h0 h1, List.take_append_drop]

theorem without_splitI {g : List Int} {k : Int} (h0 : 0 ≤ k) (h1 : k < (g.length : Int)) : g = g.take k.toNat ++ g.getD k.toNat 0 :: g.drop (k + 1).toNat := by
  rw [← drop_lt 0 h0 h1, List.take_append_drop]

theorem without_facts {g : List En} {k : Int} (h0 : 0 ≤ k) (h1 : k < (g.length : Int)) : (without g k).length + 1 = g.length ∧ sumIn g = ((g.getD k.toNat (0, [])).2.length : Int) + sumIn (without g k) ∧ sumW g = (g.getD k.toNat (0, [])).1 + sumW (without g k) ∧
    g.getD k.toNat (0, []) ∈ g ∧ ∀ x ∈ without g k, x ∈ g := by
  have e := without_split h0 h1
  refine ⟨by unfold without; simp; omega, ?_, ?_, ?_, ?_⟩
  · conv => lhs; rw [e]
    unfold without
    rw [sumIn_append, sumIn_append, sumIn]; omega
  · conv => lhs; rw [e]
    unfold without
    rw [sumW_append, sumW_append, sumW]; omega
  · have : k.toNat < g.length := by omega
    simp [List.getD_eq_getElem?_getD, this]
  · intro x hx
    unfold without at hx
    rcases List.mem_append.1 hx with h | h
    · exact List.mem_of_mem_take h
    · exact List.mem_of_mem_drop h

/-- Groups and lengths within bounds. -/
structure HOk (g : List En) (o : List Int) : Prop where
  len : g.length ≤ 8
  syms : sumIn g ≤ 8
  mem : ∀ x ∈ g, 0 < x.1 ∧ ∀ s ∈ x.2, 0 ≤ s ∧ s < 8
  sum : sumW g ≤ 8000
  o8 : o.length = 8
  bd : ∀ i : Nat, 0 ≤ o.getD i 0 ∧ o.getD i 0 ≤ 1 + 8 * (8 - g.length)

theorem bump_len (o : List Int) (s : Int) : (bump o s).length = o.length := by simp [bump]

theorem bumps_len : ∀ (l o : List Int), (bumps o l).length = o.length
  | [], o => rfl
  | s :: l, o => by
    have := bumps_len l (bump o s)
    simp only [bumps, List.foldl_cons] at this ⊢
    rw [this, bump_len]

theorem bump_get (o : List Int) (s : Int) (i : Nat) : o.getD i 0 ≤ (bump o s).getD i 0 ∧ (bump o s).getD i 0 ≤ o.getD i 0 + 1 := by
  unfold bump
  simp only [List.getD_eq_getElem?_getD, List.getElem?_set]
  split
  · rename_i h; subst h
    split
    · simp; omega
    · rename_i h2
      have : o[s.toNat]? = none := List.getElem?_eq_none (by omega)
      rw [this]; simp
  · omega

theorem bumps_get : ∀ (l o : List Int) (i : Nat), o.getD i 0 ≤ (bumps o l).getD i 0 ∧ (bumps o l).getD i 0 ≤ o.getD i 0 + l.length
  | [], o, i => by simp [bumps]
  | s :: l, o, i => by
    have h1 := bump_get o s i
    have h2 := bumps_get l (bump o s) i
    have e : bumps o (s :: l) = bumps (bump o s) l := rfl
    rw [e]
    simp only [List.length_cons]
    omega

theorem bumps_step {o l : List Int} {i : Int} (h0 : 0 ≤ i) (h1 : i < (l.length : Int)) : bumps o (l.take (i + 1).toNat) = bump (bumps o (l.take i.toNat)) (l.getD i.toNat 0) := by
  rw [take_lt 0 h0 h1]; unfold bumps; rw [List.foldl_append]; rfl

/-- What a step of joining finds. -/
theorem HOk.step {g : List En} {o : List Int} (h : HOk g o) (hl : 1 < g.length) : (hG g).length + 1 = g.length ∧ (hG (hG g)).length + 2 = g.length ∧ (hN g).length + 1 = g.length ∧
    (0 < (hA g).1 ∧ (hA g).1 ≤ 8000) ∧ (0 < (hA (hG g)).1 ∧ (hA (hG g)).1 ≤ 8000) ∧ ((hC g).2.length : Int) ≤ 8 ∧ (∀ s ∈ (hC g).2, 0 ≤ s ∧ s < 8) ∧ HOk (hN g) (bumps o (hC g).2) := by
  obtain ⟨r0, r1⟩ := leastAt_range (g := g) (by omega)
  obtain ⟨a1, a2, a3, a4, a5⟩ := without_facts r0 r1
  have hG1 : hG g = without g (leastAt g) := rfl
  have hA1 : hA g = g.getD (leastAt g).toNat (0, []) := rfl
  rw [← hG1, ← hA1] at a2 a3
  rw [← hG1] at a1 a5
  rw [← hA1] at a4
  obtain ⟨s0, s1⟩ := leastAt_range (g := hG g) (by omega)
  obtain ⟨b1, b2, b3, b4, b5⟩ := without_facts s0 s1
  have hG2 : hG (hG g) = without (hG g) (leastAt (hG g)) := rfl
  have hA2 : hA (hG g) = (hG g).getD (leastAt (hG g)).toNat (0, []) := rfl
  rw [← hG2, ← hA2] at b2 b3
  rw [← hG2] at b1 b5
  rw [← hA2] at b4
  have m1 := h.mem _ a4
  have m2 := h.mem _ (a5 _ b4)
  have hpos : ∀ l : List En, (∀ x ∈ l, 0 < x.1) → 0 ≤ sumW l := by
    intro l
    induction l with
    | nil => intro _; simp [sumW]
    | cons x l ih => intro hl; have := ih (fun y hy => hl y (List.mem_cons_of_mem _ hy)); have := hl x (List.mem_cons_self ..); simp only [sumW]; omega
  have p1 := hpos (hG (hG g)) (fun x hx => (h.mem x (a5 x (b5 x hx))).1)
  have q1 := sumIn_nonneg (hG (hG g))
  have hs := h.sum
  have hy := h.syms
  have hC1 : (hC g).1 = (hA g).1 + (hA (hG g)).1 := rfl
  have hC2 : (hC g).2 = (hA g).2 ++ (hA (hG g)).2 := rfl
  have hCl : ((hC g).2.length : Int) = (hA g).2.length + (hA (hG g)).2.length := by rw [hC2]; simp
  have hNl : (hN g).length + 1 = g.length := by unfold hN; simp; omega
  have hsym : ∀ s ∈ (hC g).2, 0 ≤ s ∧ s < 8 := fun s hs => by
    rw [hC2] at hs
    rcases List.mem_append.1 hs with q | q
    · exact m1.2 s q
    · exact m2.2 s q
  refine ⟨by omega, by omega, hNl, ⟨m1.1, by omega⟩, ⟨m2.1, by omega⟩, by omega, hsym, ⟨by have := h.len; omega, ?_, ?_, ?_, by rw [bumps_len, h.o8], fun i => ?_⟩⟩
  · unfold hN; rw [sumIn_append]; simp only [sumIn]; omega
  · intro x hx
    unfold hN at hx
    rcases List.mem_append.1 hx with q | q
    · exact h.mem x (a5 x (b5 x q))
    · rw [List.mem_singleton] at q
      subst q
      exact ⟨by omega, hsym⟩
  · unfold hN; rw [sumW_append]; simp only [sumW]; omega
  · have := bumps_get (hC g).2 o i
    have := h.bd i
    omega

theorem huff_step {g : List En} {o : List Int} (hl : 1 < g.length) (hn : (hN g).length + 1 = g.length) : huff g.length g o = huff (hN g).length (hN g) (bumps o (hC g).2) := by
  obtain ⟨n, h⟩ : ∃ n, g.length = n + 1 := ⟨g.length - 1, by omega⟩
  rw [h, huff, if_pos hl]
  congr 1; omega

theorem huff_end {g : List En} {o : List Int} (hl : ¬ 1 < g.length) : huff g.length g o = o := by
  cases h : g.length with
  | zero => rfl
  | succ n => rw [huff, if_neg hl]

theorem groups0_append : ∀ (a b : List Int) (k : Int), groups0 k (a ++ b) = groups0 k a ++ groups0 (k + a.length) b
  | [], b, k => by simp [groups0]
  | n :: a, b, k => by
    simp only [List.cons_append, groups0, groups0_append a b (k + 1), List.append_assoc]
    rw [show k + ((n :: a).length : Int) = k + 1 + a.length by simp; omega]

theorem groups0_step {c : List Int} {i : Int} (h0 : 0 ≤ i) (h1 : i < (c.length : Int)) : groups0 0 (c.take (i + 1).toNat) = groups0 0 (c.take i.toNat) ++ (if 0 < c.getD i.toNat 0 then [(c.getD i.toNat 0, [i])] else []) := by
  have ht := len_take (l := c) h0 (by omega)
  rw [take_lt 0 h0 h1, groups0_append, ht]
  simp [groups0]

theorem groups0_facts : ∀ (c : List Int) (k : Int), (groups0 k c).length ≤ c.length ∧ sumIn (groups0 k c) ≤ c.length ∧ (allIn 0 999 c = true → sumW (groups0 k c) = sumL c ∧ sumL c ≤ 999 * c.length ∧ 0 ≤ sumL c) ∧ ∀ x ∈ groups0 k c, 0 < x.1 ∧ ∃ s, x.2 = [s] ∧ k ≤ s ∧ s < k + c.length
  | [], k => by simp [groups0, sumIn, sumW, sumL]
  | n :: c, k => by
    obtain ⟨h1, h2, h3, h4⟩ := groups0_facts c (k + 1)
    simp only [groups0]
    refine ⟨?_, ?_, ?_, ?_⟩
    · split <;> simp <;> omega
    · split
      · simp [sumIn]; omega
      · simp; omega
    · intro ha
      simp only [allIn, Bool.and_eq_true, decide_eq_true_eq] at ha
      obtain ⟨q1, q2, q3⟩ := h3 ha.2
      rw [sumW_append, q1]
      simp only [sumL, List.length_cons]
      split
      · simp [sumW]; omega
      · simp [sumW]; omega
    · intro x hx
      rcases List.mem_append.1 hx with q | q
      · split at q
        · rw [List.mem_singleton] at q; subst q
          rename_i hn
          exact ⟨hn, k, rfl, by omega, by simp; omega⟩
        · cases q
      · obtain ⟨q1, s, q2, q3, q4⟩ := h4 x q
        exact ⟨q1, s, q2, by omega, by simp; omega⟩

theorem getD_rep8 (i : Nat) : (List.replicate 8 (0 : Int)).getD i 0 = 0 := by
  simp only [List.getD_eq_getElem?_getD, List.getElem?_replicate]
  split <;> rfl

theorem HOk0 {c : List Int} (h : cntOk c = true) : HOk (groups0 0 c) (lengths0 (groups0 0 c)) := by
  simp only [cntOk, Bool.and_eq_true, decide_eq_true_eq] at h
  obtain ⟨h1, h2, h3, h4⟩ := groups0_facts c 0
  obtain ⟨q1, q2, q3⟩ := h3 h.2
  have hl : (c.length : Int) = 8 := by omega
  refine ⟨by omega, by omega, fun x hx => ?_, by omega, ?_, fun i => ?_⟩
  · obtain ⟨p1, s, p2, p3, p4⟩ := h4 x hx
    refine ⟨p1, fun s' hs => ?_⟩
    rw [p2, List.mem_singleton] at hs
    omega
  · unfold lengths0; split <;> simp [zeros8]
  · have hz := getD_rep8 i
    unfold lengths0 zeros8
    split
    · simp only [List.getD_eq_getElem?_getD, List.getElem?_set] at hz ⊢
      split
      · split <;> simp <;> omega
      · rw [hz]; omega
    · rw [hz]; omega

theorem without_slices (g : List En) (k : Int) : List.take (Int.toNat (k - 0)) (List.drop (Int.toNat 0) g) ++ List.take (Int.toNat ((g.length : Int) - (k + 1))) (List.drop (Int.toNat (k + 1)) g) = without g k := by
  have e : (g.drop (k + 1).toNat).take ((g.length : Int) - (k + 1)).toNat = g.drop (k + 1).toNat := List.take_of_length_le (by simp; omega)
  rw [e, Int.sub_zero, Int.toNat_zero, List.drop_zero]; rfl

theorem allIn_weak {a b c d : Int} (h1 : c ≤ a) (h2 : b ≤ d) {l : List Int} (h : allIn a b l = true) : allIn c d l = true :=
  allIn_iff.2 fun n hn => by have := allIn_iff.1 h n hn; omega

theorem cntOk_len {c : List Int} (h : cntOk c = true) : c.length = 8 ∧ allIn (-1000000) 1000000 c = true := by
  simp only [cntOk, Bool.and_eq_true, decide_eq_true_eq] at h
  exact ⟨h.1, allIn_weak (by omega) (by omega) h.2⟩

/-- The symbol of a group that is alone. -/
theorem groups0_one {c : List Int} (h : cntOk c = true) (h1 : (groups0 0 c).length = 1) : ∃ w s, (groups0 0 c).getD 0 (0, []) = (w, [s]) ∧ 0 ≤ s ∧ s < 8 := by
  obtain ⟨_, _, _, h4⟩ := groups0_facts c 0
  have hl := (cntOk_len h).1
  generalize groups0 0 c = G at *
  match G, h1 with
  | [x], _ =>
    obtain ⟨_, s, q2, q3, q4⟩ := h4 x (List.mem_cons_self ..)
    obtain ⟨w, y⟩ := x
    simp only at q2
    subst q2
    exact ⟨w, s, rfl, q3, by omega⟩


/-! ### The reference's way -/

/-- The first least weight that is left, or -1, from a place on. -/
def leftFrom (w : List Int) : List Int → Int → Int → Int
  | [], _, best => best
  | x :: xs, k, best => leftFrom w xs (k + 1) (if 0 < x ∧ (best < 0 ∨ x < w.getD best.toNat 0) then k else best)

def leftAt (w : List Int) : Int := leftFrom w w 0 (-1)

def joinG (gr : List Int) (f t : Int) : List Int := gr.map fun g => if g = f then t else g

def joinL : List Int → List Int → Int → List Int
  | g :: gs, l :: ls, f => (if g = f then l + 1 else l) :: joinL gs ls f
  | _, ls, _ => ls

def usedL : List Int → List Int → List Int
  | c :: cs, l :: ls => (if c = 0 then 0 else l) :: usedL cs ls
  | _, ls => ls

theorem left_step {w : List Int} {i best : Int} (h0 : 0 ≤ i) (h1 : i < (w.length : Int)) : leftFrom w (w.drop i.toNat) i best = leftFrom w (w.drop (i + 1).toNat) (i + 1) (if 0 < w.getD i.toNat 0 ∧ (best < 0 ∨ w.getD i.toNat 0 < w.getD best.toNat 0) then i else best) := by
  rw [drop_lt 0 h0 h1, leftFrom]

theorem left_end {w : List Int} {i best : Int} (h : ¬ i < (w.length : Int)) : leftFrom w (w.drop i.toNat) i best = best := by rw [drop_ge h, leftFrom]

theorem left_range (w : List Int) : ∀ (xs : List Int) (k best : Int), -1 ≤ best → best < k + xs.length → 0 ≤ k → -1 ≤ leftFrom w xs k best ∧ leftFrom w xs k best < k + xs.length
  | [], k, best, h0, h1, h2 => by simp at h1; simp [leftFrom]; omega
  | x :: xs, k, best, h0, h1, h2 => by
    have e : k + ((x :: xs).length : Int) = k + 1 + xs.length := by simp; omega
    rw [e] at h1 ⊢
    rw [leftFrom]
    split
    · exact left_range w xs (k + 1) k (by omega) (by omega) (by omega)
    · exact left_range w xs (k + 1) best h0 h1 (by omega)

theorem joinG_len (gr : List Int) (f t : Int) : (joinG gr f t).length = gr.length := by simp [joinG]

theorem joinL_len : ∀ (gr le : List Int) (f : Int), (joinL gr le f).length = le.length
  | [], le, f => by simp [joinL]
  | g :: gs, [], f => by simp [joinL]
  | g :: gs, l :: ls, f => by simp [joinL, joinL_len gs ls f]

theorem usedL_len : ∀ (c le : List Int), (usedL c le).length = le.length
  | [], le => by simp [usedL]
  | g :: gs, [] => by simp [usedL]
  | g :: gs, l :: ls => by simp [usedL, usedL_len gs ls]

theorem set_take {l : List Int} {i : Int} (h0 : 0 ≤ i) (h1 : i < (l.length : Int)) (x : Int) : (l.set i.toNat x).take (i + 1).toNat = l.take i.toNat ++ [x] := by
  have e := without_splitI h0 h1
  conv => lhs; rw [e]
  rw [set_at (len_take h0 (by omega))]
  have hlen : (i + 1).toNat = (l.take i.toNat ++ [x]).length := by simp; omega
  generalize l.drop (i + 1).toNat = d
  rw [hlen, show l.take i.toNat ++ x :: d = (l.take i.toNat ++ [x]) ++ d by simp, List.take_left]

theorem set_drop {l : List Int} {i : Int} (h0 : 0 ≤ i) (x : Int) : (l.set i.toNat x).drop (i + 1).toNat = l.drop (i + 1).toNat := by
  rw [List.drop_set, if_pos (by omega)]

theorem joinG_step {gr : List Int} {i f t : Int} (h0 : 0 ≤ i) (h1 : i < (gr.length : Int)) : joinG (gr.drop i.toNat) f t = (if gr.getD i.toNat 0 = f then t else gr.getD i.toNat 0) :: joinG (gr.drop (i + 1).toNat) f t := by
  rw [drop_lt 0 h0 h1]; rfl

theorem joinL_step {gr le : List Int} {i f : Int} (h0 : 0 ≤ i) (h1 : i < (gr.length : Int)) (h2 : i < (le.length : Int)) : joinL (gr.drop i.toNat) (le.drop i.toNat) f = (if gr.getD i.toNat 0 = f then le.getD i.toNat 0 + 1 else le.getD i.toNat 0) :: joinL (gr.drop (i + 1).toNat) (le.drop (i + 1).toNat) f := by
  rw [drop_lt 0 h0 h1, drop_lt 0 h0 h2]; rfl

theorem usedL_step {c le : List Int} {i : Int} (h0 : 0 ≤ i) (h1 : i < (c.length : Int)) (h2 : i < (le.length : Int)) : usedL (c.drop i.toNat) (le.drop i.toNat) = (if c.getD i.toNat 0 = 0 then 0 else le.getD i.toNat 0) :: usedL (c.drop (i + 1).toNat) (le.drop (i + 1).toNat) := by
  rw [drop_lt 0 h0 h1, drop_lt 0 h0 h2]; rfl

theorem join_end {gr le : List Int} {i f t : Int} (h : ¬ i < (gr.length : Int)) : joinG (gr.drop i.toNat) f t = [] ∧ joinL (gr.drop i.toNat) le f = le ∧ usedL (gr.drop i.toNat) le = le := by
  rw [drop_ge h]; exact ⟨rfl, by cases le <;> rfl, by cases le <;> rfl⟩

theorem getD_drop {l m : List Int} {i : Int} (h : l.drop i.toNat = m.drop i.toNat) : l.getD i.toNat 0 = m.getD i.toNat 0 := by
  have := congrArg (fun q : List Int => q.getD 0 0) h
  simpa [List.getD_eq_getElem?_getD] using this

theorem drop_more {l m : List Int} {i : Int} (h0 : 0 ≤ i) (h : l.drop i.toNat = m.drop i.toNat) : l.drop (i + 1).toNat = m.drop (i + 1).toNat := by
  have := congrArg (List.drop 1) h
  rw [List.drop_drop, List.drop_drop] at this
  rw [show (i + 1).toNat = i.toNat + 1 by omega]
  exact this

end Go.Mx

/-
  M9: the two ways to join groups are one.
-/
namespace Go.Mx

def symsFrom : Int → List Int → Int → List Int
  | _, [], _ => []
  | i, g :: gs, k => if g = k then i :: symsFrom (i + 1) gs k else symsFrom (i + 1) gs k

def specG (gr : List Int) : Int → List Int → List En
  | _, [] => []
  | k, w :: ws => (if 0 < w then [(w, symsFrom 0 gr k)] else []) ++ specG gr (k + 1) ws

theorem specG_append (gr : List Int) : ∀ (a b : List Int) (k : Int), specG gr k (a ++ b) = specG gr k a ++ specG gr (k + a.length) b
  | [], b, k => by simp [specG]
  | n :: a, b, k => by
    simp only [List.cons_append, specG, specG_append gr a b (k + 1), List.append_assoc]
    rw [show k + ((n :: a).length : Int) = k + 1 + a.length by simp; omega]

theorem specG_nil (gr : List Int) : ∀ (w : List Int) (k : Int), (∀ x ∈ w, x ≤ 0) → specG gr k w = []
  | [], k, _ => rfl
  | x :: w, k, h => by
    have := h x (List.mem_cons_self ..)
    rw [specG, if_neg (by omega), specG_nil gr w (k + 1) (fun y hy => h y (List.mem_cons_of_mem _ hy))]; rfl

theorem mem_specG {gr : List Int} {x : En} : ∀ {w : List Int} {k : Int}, x ∈ specG gr k w → ∃ j : Nat, j < w.length ∧ 0 < w.getD j 0 ∧ x = (w.getD j 0, symsFrom 0 gr (k + j))
  | [], k, h => by cases h
  | y :: w, k, h => by
    rw [specG] at h
    rcases List.mem_append.1 h with q | q
    · split at q
      · rename_i hy
        rw [List.mem_singleton] at q
        exact ⟨0, by simp, hy, by rw [q]; simp⟩
      · cases q
    · obtain ⟨j, h1, h2, h3⟩ := mem_specG q
      refine ⟨j + 1, by simp; omega, by simpa using h2, ?_⟩
      rw [h3]
      have : k + 1 + (j : Int) = k + ((j + 1 : Nat) : Int) := by omega
      rw [this]; simp

theorem sumW_specG {gr : List Int} : ∀ {w : List Int} {k : Int}, (∀ x ∈ w, 0 ≤ x) → sumW (specG gr k w) = sumL w
  | [], k, _ => rfl
  | x :: w, k, h => by
    have := h x (List.mem_cons_self ..)
    rw [specG, sumW_append, sumW_specG (fun y hy => h y (List.mem_cons_of_mem _ hy)), sumL]
    split
    · simp [sumW]
    · simp [sumW]; omega

def wt (g : List En) (j : Nat) : Int := (g.getD j (0, [])).1

/-- The first least place. -/
structure FirstLeast (g : List En) (r : Nat) : Prop where
  lt : r < g.length
  le : ∀ j, j < g.length → wt g r ≤ wt g j
  first : ∀ j, j < r → wt g r < wt g j

theorem FirstLeast.one {g : List En} {p q : Nat} (hp : FirstLeast g p) (hq : FirstLeast g q) : p = q := by
  by_cases h1 : p < q
  · have := hq.first p h1; have := hp.le q hq.lt; omega
  · by_cases h2 : q < p
    · have := hp.first q h2; have := hq.le p hp.lt; omega
    · omega

theorem leastFrom_char (g : List En) : ∀ (xs : List En) (k best : Nat), g.drop k = xs → k ≤ g.length → best < g.length → (∀ j, j < k → wt g best ≤ wt g j) → (∀ j, j < best → wt g best < wt g j) → ∃ r : Nat, leastFrom g xs k best = r ∧ FirstLeast g r
  | [], k, best, h, hk, hb, h1, h2 => by
    have : g.length ≤ k := by
      have := congrArg List.length h
      simp at this; omega
    exact ⟨best, rfl, hb, fun j hj => h1 j (by omega), h2⟩
  | x :: xs, k, best, h, hk, hb, h1, h2 => by
    have hkl : k < g.length := by
      have := congrArg List.length h
      simp at this; omega
    have hx : x.1 = wt g k := by
      rw [List.drop_eq_getElem_cons hkl, List.cons.injEq] at h
      unfold wt
      rw [← h.1]; simp [List.getD_eq_getElem?_getD, hkl]
    have hxs : g.drop (k + 1) = xs := by
      rw [List.drop_eq_getElem_cons hkl, List.cons.injEq] at h
      exact h.2
    rw [leastFrom]
    have e : (k : Int) + 1 = ((k + 1 : Nat) : Int) := by omega
    have e2 : ((g.getD ((best : Nat) : Int).toNat (0, [])).1 : Int) = wt g best := rfl
    rw [e, e2, hx]
    split
    · rename_i hlt
      exact leastFrom_char g xs (k + 1) k hxs (by omega) hkl (fun j hj => by
        by_cases q : j = k
        · subst q; omega
        · have := h1 j (by omega); omega) (fun j hj => by have := h1 j hj; omega)
    · rename_i hlt
      exact leastFrom_char g xs (k + 1) best hxs (by omega) hb (fun j hj => by
        by_cases q : j = k
        · subst q; omega
        · exact h1 j (by omega)) h2

theorem leastAt_char {g : List En} (h : 0 < g.length) : ∃ r : Nat, leastAt g = r ∧ FirstLeast g r :=
  leastFrom_char g g 0 0 rfl (by omega) h (fun j hj => by omega) (fun j hj => by omega)

def LeftOk (w : List Int) (k : Nat) (best : Int) : Prop :=
  (best = -1 ∧ ∀ j, j < k → w.getD j 0 ≤ 0) ∨ ∃ b : Nat, best = b ∧ b < k ∧ 0 < w.getD b 0 ∧ (∀ j, j < k → 0 < w.getD j 0 → w.getD b 0 ≤ w.getD j 0) ∧ (∀ j, j < b → 0 < w.getD j 0 → w.getD b 0 < w.getD j 0)

theorem leftFrom_char (w : List Int) : ∀ (xs : List Int) (k : Nat) (best : Int), w.drop k = xs → k ≤ w.length → LeftOk w k best → LeftOk w w.length (leftFrom w xs k best)
  | [], k, best, h, hk, hb => by
    have : k = w.length := by
      have := congrArg List.length h
      simp at this; omega
    rw [← this]; exact hb
  | x :: xs, k, best, h, hk, hb => by
    have hkl : k < w.length := by
      have := congrArg List.length h
      simp at this; omega
    have hx : x = w.getD k 0 := by
      rw [List.drop_eq_getElem_cons hkl, List.cons.injEq] at h
      rw [← h.1]; simp [List.getD_eq_getElem?_getD, hkl]
    have hxs : w.drop (k + 1) = xs := by
      rw [List.drop_eq_getElem_cons hkl, List.cons.injEq] at h
      exact h.2
    rw [leftFrom]
    have e : (k : Int) + 1 = ((k + 1 : Nat) : Int) := by omega
    rw [e]
    refine leftFrom_char w xs (k + 1) _ hxs (by omega) ?_
    rw [hx]
    rcases hb with ⟨rfl, h1⟩ | ⟨b, rfl, h1, h2, h3, h4⟩
    · split
      · rename_i q
        exact .inr ⟨k, rfl, by omega, q.1, fun j hj hp => by
          by_cases q2 : j = k
          · subst q2; omega
          · have := h1 j (by omega); omega, fun j hj hp => by have := h1 j hj; omega⟩
      · rename_i q
        exact .inl ⟨rfl, fun j hj => by
          by_cases q2 : j = k
          · subst q2; by_cases q3 : 0 < w.getD j 0
            · exact absurd ⟨q3, .inl (by omega)⟩ q
            · omega
          · exact h1 j (by omega)⟩
    · rw [show ((b : Int)).toNat = b by omega]
      split
      · rename_i q
        have hlt : w.getD k 0 < w.getD b 0 := q.2.resolve_left (by omega)
        exact .inr ⟨k, rfl, by omega, q.1, fun j hj hp => by
          by_cases q2 : j = k
          · subst q2; omega
          · have := h3 j (by omega) hp; omega, fun j hj hp => by have := h3 j hj hp; omega⟩
      · rename_i q
        exact .inr ⟨b, rfl, by omega, h2, fun j hj hp => by
          by_cases q2 : j = k
          · subst q2
            by_cases q3 : w.getD j 0 < w.getD b 0
            · exact absurd ⟨hp, .inr q3⟩ q
            · omega
          · exact h3 j (by omega) hp, h4⟩

theorem leftAt_char (w : List Int) : LeftOk w w.length (leftAt w) := leftFrom_char w w 0 (-1) rfl (by omega) (.inl ⟨rfl, fun j hj => by omega⟩)

/-- The reference's least group is the least group. -/
theorem left_least (gr w : List Int) : (leftAt w = -1 ∧ specG gr 0 w = []) ∨ ∃ b : Nat, leftAt w = b ∧ b < w.length ∧ 0 < w.getD b 0 ∧ hA (specG gr 0 w) = (w.getD b 0, symsFrom 0 gr b) ∧ hG (specG gr 0 w) = specG gr 0 (w.set b 0) ∧ 0 < (specG gr 0 w).length := by
  rcases leftAt_char w with ⟨h0, h1⟩ | ⟨b, h0, h1, h2, h3, h4⟩
  · refine .inl ⟨h0, specG_nil gr w 0 fun x hx => ?_⟩
    obtain ⟨i, hi, rfl⟩ := List.mem_iff_getElem.1 hx
    have := h1 i hi
    simpa [List.getD_eq_getElem?_getD, hi] using this
  · refine .inr ⟨b, h0, h1, h2, ?_⟩
    have hw : w = w.take b ++ w.getD b 0 :: w.drop (b + 1) := by
      have := without_splitI (g := w) (k := b) (by omega) (by omega)
      rw [show ((b : Int)).toNat = b by omega, show ((b : Int) + 1).toNat = b + 1 by omega] at this
      exact this
    have hlt : ((w.take b).length : Int) = b := by simp; omega
    have hG : specG gr 0 w = specG gr 0 (w.take b) ++ (w.getD b 0, symsFrom 0 gr b) :: specG gr (b + 1) (w.drop (b + 1)) := by
      conv => lhs; rw [hw]
      rw [specG_append, hlt, specG, if_pos h2]; simp
    have hS : specG gr 0 (w.set b 0) = specG gr 0 (w.take b) ++ specG gr (b + 1) (w.drop (b + 1)) := by
      have hw' : w.set b 0 = w.take b ++ 0 :: w.drop (b + 1) := by
        conv => lhs; rw [hw]
        have := set_at (A := w.take b) (v := 0) (b := w.getD b 0) (B := w.drop (b + 1)) hlt
        simpa using this
      rw [hw', specG_append, hlt, specG]; simp
    have hmem : ∀ x ∈ specG gr 0 w, w.getD b 0 ≤ x.1 := fun x hx => by
      obtain ⟨j, q1, q2, rfl⟩ := mem_specG hx
      exact h3 j q1 q2
    have hfst : ∀ x ∈ specG gr 0 (w.take b), w.getD b 0 < x.1 := fun x hx => by
      obtain ⟨j, q1, q2, rfl⟩ := mem_specG hx
      have hj : j < b := by simp at q1; omega
      have e : (w.take b).getD j 0 = w.getD j 0 := by simp [List.getD_eq_getElem?_getD, List.getElem?_take, hj]
      simp only [e] at q2 ⊢
      exact h4 j hj q2
    generalize hP : specG gr 0 (w.take b) = P at *
    generalize specG gr (b + 1) (w.drop (b + 1)) = Q at *
    have hq : wt (specG gr 0 w) P.length = w.getD b 0 := by
      unfold wt; rw [hG]; simp [List.getD_eq_getElem?_getD]
    have hF : FirstLeast (specG gr 0 w) P.length := by
      refine ⟨by rw [hG]; simp, fun j hj => ?_, fun j hj => ?_⟩
      · rw [hq]
        refine hmem _ ?_
        simp [List.getD_eq_getElem?_getD, hj]
      · rw [hq]
        have : wt (specG gr 0 w) j = wt P j := by
          unfold wt; rw [hG]; simp [List.getD_eq_getElem?_getD, List.getElem?_append_left hj]
        rw [this]
        refine hfst _ ?_
        simp [List.getD_eq_getElem?_getD, hj]
    have hpos : 0 < (specG gr 0 w).length := by rw [hG]; simp; omega
    obtain ⟨r, hr, hFr⟩ := leastAt_char hpos
    have hrq := hFr.one hF
    subst hrq
    refine ⟨?_, ?_, hpos⟩
    · unfold hA
      rw [hr, show ((P.length : Int)).toNat = P.length by omega, hG]
      simp [List.getD_eq_getElem?_getD]
    · unfold Go.Mx.hG
      rw [hr, hS, hG]
      unfold without
      rw [show ((P.length : Int)).toNat = P.length by omega, show ((P.length : Int) + 1).toNat = P.length + 1 by omega, List.take_left, List.drop_append]
      simp

end Go.Mx

/-
  M10: joined groups, up to the order of symbols.
-/
namespace Go.Mx

theorem bump_comm (o : List Int) (s t : Int) : bump (bump o s) t = bump (bump o t) s := by
  by_cases h : s.toNat = t.toNat
  · unfold bump; rw [h]
  · apply List.ext_getElem?
    intro i
    unfold bump
    simp only [List.getElem?_set, List.getD_eq_getElem?_getD, List.length_set]
    grind

theorem bumps_perm {l m : List Int} (h : l.Perm m) : ∀ o, bumps o l = bumps o m := by
  induction h with
  | nil => intro o; rfl
  | cons x _ ih => intro o; exact ih (bump o x)
  | swap x y l => intro o; show bumps (bump (bump o y) x) l = bumps (bump (bump o x) y) l; rw [bump_comm]
  | trans _ _ h1 h2 => intro o; rw [h1 o, h2 o]

theorem bumps_append (o l m : List Int) : bumps o (l ++ m) = bumps (bumps o l) m := List.foldl_append

/-- The same groups, up to the order of symbols. -/
def Sim : List En → List En → Prop
  | [], [] => True
  | x :: xs, y :: ys => (x.1 = y.1 ∧ x.2.Perm y.2) ∧ Sim xs ys
  | _, _ => False

theorem Sim.refl : ∀ (g : List En), Sim g g
  | [] => trivial
  | x :: xs => ⟨⟨rfl, .refl _⟩, Sim.refl xs⟩

theorem Sim.len : ∀ {g g' : List En}, Sim g g' → g.length = g'.length
  | [], [], _ => rfl
  | x :: xs, y :: ys, h => by simp [Sim.len h.2]
  | [], _ :: _, h => h.elim
  | _ :: _, [], h => h.elim

theorem Sim.append : ∀ {a a' b b' : List En}, Sim a a' → Sim b b' → Sim (a ++ b) (a' ++ b')
  | [], [], b, b', _, h => h
  | x :: xs, y :: ys, b, b', h, h' => ⟨h.1, Sim.append h.2 h'⟩
  | [], _ :: _, _, _, h, _ => h.elim
  | _ :: _, [], _, _, h, _ => h.elim

theorem Sim.take : ∀ {g g' : List En} (n : Nat), Sim g g' → Sim (g.take n) (g'.take n)
  | [], [], n, _ => by simp; trivial
  | x :: xs, y :: ys, 0, h => trivial
  | x :: xs, y :: ys, n + 1, h => ⟨h.1, Sim.take n h.2⟩
  | [], _ :: _, _, h => h.elim
  | _ :: _, [], _, h => h.elim

theorem Sim.drop : ∀ {g g' : List En} (n : Nat), Sim g g' → Sim (g.drop n) (g'.drop n)
  | [], [], n, _ => by simp; trivial
  | x :: xs, y :: ys, 0, h => h
  | x :: xs, y :: ys, n + 1, h => Sim.drop n h.2
  | [], _ :: _, _, h => h.elim
  | _ :: _, [], _, h => h.elim

theorem Sim.get : ∀ {g g' : List En} (n : Nat), Sim g g' → (g.getD n (0, [])).1 = (g'.getD n (0, [])).1 ∧ (g.getD n (0, [])).2.Perm (g'.getD n (0, [])).2
  | [], [], n, _ => ⟨rfl, .refl _⟩
  | x :: xs, y :: ys, 0, h => h.1
  | x :: xs, y :: ys, n + 1, h => by simpa using Sim.get n h.2
  | [], _ :: _, _, h => h.elim
  | _ :: _, [], _, h => h.elim

theorem Sim.least {g g' : List En} (h : Sim g g') : leastAt g = leastAt g' := by
  have key : ∀ (xs ys : List En) (k b : Int), Sim xs ys → leastFrom g xs k b = leastFrom g' ys k b := by
    intro xs
    induction xs with
    | nil => intro ys k b hs; cases ys with
      | nil => rfl
      | cons _ _ => exact hs.elim
    | cons x xs ih =>
      intro ys k b hs
      cases ys with
      | nil => exact hs.elim
      | cons y ys =>
        rw [leastFrom, leastFrom, hs.1.1, (h.get b.toNat).1]
        exact ih ys (k + 1) _ hs.2
  exact key g g' 0 0 h

theorem Sim.hA {g g' : List En} (h : Sim g g') : (Go.Mx.hA g).1 = (Go.Mx.hA g').1 ∧ (Go.Mx.hA g).2.Perm (Go.Mx.hA g').2 := by
  unfold Go.Mx.hA; rw [h.least]; exact h.get _

theorem Sim.hG {g g' : List En} (h : Sim g g') : Sim (Go.Mx.hG g) (Go.Mx.hG g') := by
  unfold Go.Mx.hG without; rw [h.least]; exact (h.take _).append (h.drop _)

theorem Sim.hC {g g' : List En} (h : Sim g g') : (Go.Mx.hC g).1 = (Go.Mx.hC g').1 ∧ (Go.Mx.hC g).2.Perm (Go.Mx.hC g').2 :=
  ⟨by show _ + _ = _ + _; rw [h.hA.1, h.hG.hA.1], h.hA.2.append h.hG.hA.2⟩

theorem Sim.hN {g g' : List En} (h : Sim g g') : Sim (Go.Mx.hN g) (Go.Mx.hN g') := h.hG.hG.append ⟨h.hC, trivial⟩

theorem Sim.huff : ∀ (n : Nat) {g g' : List En} (o : List Int), Sim g g' → Go.Mx.huff n g o = Go.Mx.huff n g' o
  | 0, _, _, _, _ => rfl
  | n + 1, g, g', o, h => by
    rw [Go.Mx.huff, Go.Mx.huff, h.len, bumps_perm h.hC.2]
    split
    · exact Sim.huff n _ h.hN
    · rfl

theorem Sim.sums : ∀ {g g' : List En}, Sim g g' → sumIn g = sumIn g' ∧ sumW g = sumW g'
  | [], [], _ => ⟨rfl, rfl⟩
  | x :: xs, y :: ys, h => by
    have h1 := h.1.2.length_eq
    have h2 := Sim.sums h.2
    have h3 := h.1.1
    simp only [sumIn, sumW]; omega
  | [], _ :: _, h => h.elim
  | _ :: _, [], h => h.elim

theorem Sim.mem : ∀ {g g' : List En}, Sim g g' → ∀ y ∈ g', ∃ x ∈ g, x.1 = y.1 ∧ x.2.Perm y.2
  | [], [], _, y, hy => by cases hy
  | x :: xs, z :: ys, h, y, hy => by
    rcases List.mem_cons.1 hy with rfl | q
    · exact ⟨x, List.mem_cons_self .., h.1⟩
    · obtain ⟨w, h1, h2⟩ := Sim.mem h.2 y q
      exact ⟨w, List.mem_cons_of_mem _ h1, h2⟩
  | [], _ :: _, h, _, _ => h.elim
  | _ :: _, [], h, _, _ => h.elim

theorem HOk.sim {g g' : List En} {o : List Int} (h : HOk g o) (hs : Sim g g') : HOk g' o := by
  have h1 := hs.sums
  have h2 := hs.len
  refine ⟨by have := h.len; omega, by have := h.syms; omega, fun y hy => ?_, by have := h.sum; omega, h.o8, fun i => by have := h.bd i; omega⟩
  obtain ⟨x, q1, q2, q3⟩ := hs.mem y hy
  have := h.mem x q1
  exact ⟨by omega, fun s hs => this.2 s (q3.mem_iff.2 hs)⟩

theorem symsFrom_join {a b t : Int} (hab : a ≠ b) (hat : a ≠ t) (hbt : b ≠ t) : ∀ (gr : List Int) (i : Int), (∀ x ∈ gr, x ≠ t) → (symsFrom i gr a ++ symsFrom i gr b).Perm (symsFrom i (joinG (joinG gr a t) b t) t)
  | [], i, _ => .refl _
  | g :: gs, i, h => by
    have ih := symsFrom_join hab hat hbt gs (i + 1) (fun x hx => h x (List.mem_cons_of_mem _ hx))
    have hg := h g (List.mem_cons_self ..)
    have e : joinG (joinG (g :: gs) a t) b t = (if (if g = a then t else g) = b then t else (if g = a then t else g)) :: joinG (joinG gs a t) b t := rfl
    rw [e]
    simp only [symsFrom]
    by_cases h1 : g = a
    · subst h1
      simp only [if_true, if_neg hab, if_neg (Ne.symm hbt), List.cons_append]
      exact ih.cons _
    · by_cases h2 : g = b
      · subst h2
        simp only [if_neg h1, if_true]
        exact List.perm_middle.trans (ih.cons _)
      · simp only [if_neg h1, if_neg h2, if_neg hg]
        exact ih

theorem symsFrom_other {a t k : Int} (hka : k ≠ a) (hkt : k ≠ t) : ∀ (gr : List Int) (i : Int), symsFrom i (joinG gr a t) k = symsFrom i gr k
  | [], i => rfl
  | g :: gs, i => by
    have ih := symsFrom_other hka hkt gs (i + 1)
    have e : joinG (g :: gs) a t = (if g = a then t else g) :: joinG gs a t := rfl
    rw [e]
    simp only [symsFrom, ih]
    by_cases h1 : g = a
    · subst h1; simp only [if_true, if_neg (Ne.symm hkt), if_neg (Ne.symm hka)]
    · simp only [if_neg h1]

theorem specG_congr {gr gr' : List Int} : ∀ (w : List Int) (k : Int), (∀ j : Nat, j < w.length → 0 < w.getD j 0 → symsFrom 0 gr (k + j) = symsFrom 0 gr' (k + j)) → specG gr k w = specG gr' k w
  | [], k, _ => rfl
  | x :: w, k, h => by
    have h0 := h 0 (by simp)
    have ih := specG_congr w (k + 1) (fun j hj hp => by
      have := h (j + 1) (by simp; omega) (by simpa using hp)
      have e : k + 1 + (j : Int) = k + ((j + 1 : Nat) : Int) := by omega
      simp only [e]
      exact this)
    rw [specG, specG, ih]
    split
    · rename_i hx
      have := h0 (by simpa using hx)
      simp at this
      rw [this]
    · rfl

theorem joinL_bumps (f : Int) : ∀ (gr le pre : List Int), gr.length ≤ le.length → bumps (pre ++ le) (symsFrom pre.length gr f) = pre ++ joinL gr le f
  | [], le, pre, _ => by cases le <;> simp [symsFrom, bumps, joinL]
  | g :: gs, [], pre, h => by simp at h
  | g :: gs, l :: ls, pre, h => by
    have ih := fun p : List Int => joinL_bumps f gs ls p (by simp at h; omega)
    simp only [symsFrom, joinL]
    have e : ∀ x : Int, (pre.length : Int) + 1 = ((pre ++ [x]).length : Int) := fun x => by simp
    by_cases hg : g = f
    · rw [if_pos hg, if_pos hg]
      have hb : bump (pre ++ l :: ls) (pre.length : Int) = (pre ++ [l + 1]) ++ ls := by
        unfold bump
        rw [getD_at rfl, set_at rfl]; simp
      show bumps (bump (pre ++ l :: ls) (pre.length : Int)) _ = _
      rw [hb, e (l + 1), ih]; simp
    · rw [if_neg hg, if_neg hg, e l, show pre ++ l :: ls = (pre ++ [l]) ++ ls by simp, ih]; simp

end Go.Mx

/-
  M11: the reference's step joins the two least groups.
-/
namespace Go.Mx

theorem getD_set0 (w : List Int) (a j : Nat) (v : Int) : (w.set a v).getD j 0 = if a = j ∧ j < w.length then v else w.getD j 0 := by
  simp only [List.getD_eq_getElem?_getD, List.getElem?_set]
  grind

theorem joinG_get {f t : Int} : ∀ (gr : List Int) (i : Nat), i < gr.length → (joinG gr f t).getD i 0 = if gr.getD i 0 = f then t else gr.getD i 0 := by
  intro gr i h
  unfold joinG
  simp [List.getD_eq_getElem?_getD, h]

theorem joinL_get {f : Int} : ∀ (gr le : List Int) (i : Nat), i < gr.length → gr.length ≤ le.length → (joinL gr le f).getD i 0 = if gr.getD i 0 = f then le.getD i 0 + 1 else le.getD i 0
  | g :: gs, l :: ls, 0, _, _ => by simp [joinL]
  | g :: gs, l :: ls, i + 1, h, h' => by
    have := joinL_get (f := f) gs ls i (by simpa using h) (by simpa using h')
    simpa [joinL] using this
  | [], _, i, h, _ => by simp at h
  | g :: gs, [], i, h, h' => by simp at h'

structure SInv (c w gr le : List Int) : Prop where
  ok : HOk (specG gr 0 w) le
  gr8 : gr.length = 8
  grlt : ∀ x ∈ gr, x < (w.length : Int)
  wpos : ∀ x ∈ w, 0 ≤ x ∧ x ≤ 8000
  wlen : w.length + (specG gr 0 w).length ≤ 17
  w8 : 8 ≤ w.length
  unused : ∀ i : Nat, i < 8 → c.getD i 0 = 0 → gr.getD i 0 = (i : Int) ∧ w.getD i 0 = 0 ∧ le.getD i 0 = 0

theorem mem_set0 {w : List Int} {a : Nat} {v x : Int} (h : x ∈ w.set a v) : x = v ∨ x ∈ w := by
  rcases List.mem_or_eq_of_mem_set h with q | q
  · exact .inr q
  · exact .inl q

theorem spec_step {c w gr le : List Int} (h : SInv c w gr le) {a b : Nat} (ha : leftAt w = a) (hb : leftAt (w.set a 0) = b) (x : Int) (hx : x = w.getD a 0 + (w.set a 0).getD b 0) :
    SInv c ((w.set a 0).set b 0 ++ [x]) (joinG (joinG gr a w.length) b w.length) (joinL (joinG gr a w.length) (joinL gr le a) b) ∧
    huff (specG gr 0 w).length (specG gr 0 w) le = huff (specG (joinG (joinG gr a w.length) b w.length) 0 ((w.set a 0).set b 0 ++ [x])).length (specG (joinG (joinG gr a w.length) b w.length) 0 ((w.set a 0).set b 0 ++ [x])) (joinL (joinG gr a w.length) (joinL gr le a) b) ∧
    (specG (joinG (joinG gr a w.length) b w.length) 0 ((w.set a 0).set b 0 ++ [x])).length + 1 = (specG gr 0 w).length ∧
    a < w.length ∧ b < w.length ∧ 0 ≤ x ∧ x ≤ 8000 ∧ allIn 0 1000 le = true ∧ allIn 0 1000 (joinL gr le a) = true := by
  rcases left_least gr w with ⟨h1, _⟩ | ⟨a', h1, a1, a2, a3, a4, a5⟩
  · omega
  have : a' = a := by omega
  subst this
  rcases left_least gr (w.set a' 0) with ⟨h2, _⟩ | ⟨b', h2, b1, b2, b3, b4, b5⟩
  · omega
  have : b' = b := by omega
  subst this
  generalize a' = a at *
  generalize b' = b at *
  simp only [List.length_set] at b1
  have hab : a ≠ b := by
    rintro rfl
    rw [getD_set0, if_pos ⟨rfl, a1⟩] at b2
    omega
  have hl2 : ((w.set a 0).set b 0).length = w.length := by simp
  generalize hG : specG gr 0 w = G at *
  rw [← a4] at b3 b4 b5
  obtain ⟨r0, r1⟩ := leastAt_range (g := G) (by omega)
  have hw1 := (without_facts r0 r1).1
  have hGl : (Go.Mx.hG G).length + 1 = G.length := hw1
  have h2l : 1 < G.length := by omega
  obtain ⟨t1, t2, t3, t4, t5, t6, t7, t8⟩ := h.ok.step (by rw [hG]; exact h2l)
  rw [hG] at t1 t2 t3 t4 t5 t6 t7 t8
  have hCx : (hC G).1 = x := by show (hA G).1 + (hA (Go.Mx.hG G)).1 = x; rw [a3, b3]; exact hx.symm
  have hCs : (hC G).2 = symsFrom 0 gr a ++ symsFrom 0 gr b := by show (hA G).2 ++ (hA (Go.Mx.hG G)).2 = _; rw [a3, b3]
  have hxb : 0 < x ∧ x ≤ 8000 := by
    have q := (t8.mem (hC G) (by unfold hN; simp)).1
    have q2 := t8.sum
    have q3 : sumW (hN G) = sumW (Go.Mx.hG (Go.Mx.hG G)) + x := by unfold hN; rw [sumW_append]; simp only [sumW, hCx]; omega
    have q4 : 0 ≤ sumW (Go.Mx.hG (Go.Mx.hG G)) := by
      rw [b4, sumW_specG (fun y hy => by
        rcases mem_set0 hy with rfl | hy
        · omega
        · rcases mem_set0 hy with rfl | hy
          · omega
          · exact (h.wpos y hy).1)]
      have : ∀ l : List Int, (∀ y ∈ l, 0 ≤ y) → 0 ≤ sumL l := by
        intro l
        induction l with
        | nil => intro _; simp [sumL]
        | cons y l ih => intro hl; have := ih (fun z hz => hl z (List.mem_cons_of_mem _ hz)); have := hl y (List.mem_cons_self ..); simp only [sumL]; omega
      exact this _ (fun y hy => by
        rcases mem_set0 hy with rfl | hy
        · omega
        · rcases mem_set0 hy with rfl | hy
          · omega
          · exact (h.wpos y hy).1)
    rw [hCx] at q
    omega
  have hta : (a : Int) ≠ (w.length : Int) := by omega
  have htb : (b : Int) ≠ (w.length : Int) := by omega
  have hab' : (a : Int) ≠ (b : Int) := by omega
  have hgt : ∀ y ∈ gr, y ≠ (w.length : Int) := fun y hy => by have := h.grlt y hy; omega
  have hS : Sim (hN G) (specG (joinG (joinG gr a w.length) b w.length) 0 ((w.set a 0).set b 0 ++ [x])) := by
    have e1 : specG (joinG (joinG gr a w.length) b w.length) 0 ((w.set a 0).set b 0) = specG gr 0 ((w.set a 0).set b 0) := by
      refine (specG_congr _ 0 fun j hj hp => ?_).symm
      rw [hl2] at hj
      rw [getD_set0, getD_set0] at hp
      have hja : a ≠ j := by
        rintro rfl
        simp only [a1, and_self, if_true] at hp
        split at hp <;> omega
      have hjb : b ≠ j := by
        rintro rfl
        simp only [List.length_set, b1, and_self, if_true] at hp
        omega
      rw [symsFrom_other (by omega) (by omega), symsFrom_other (by omega) (by omega)]
    rw [specG_append, e1, hl2]
    unfold hN
    rw [b4]
    refine (Sim.refl _).append ?_
    rw [specG, if_pos hxb.1]
    refine ⟨⟨hCx, ?_⟩, trivial⟩
    rw [hCs, Int.zero_add]
    exact symsFrom_join hab' hta htb gr 0 hgt
  have hle : le.length = 8 := h.ok.o8
  have hg8 := h.gr8
  have hL1 : joinL gr le a = bumps le (symsFrom 0 gr a) := by
    have := joinL_bumps a gr le [] (by omega)
    simpa using this.symm
  have hL2 : joinL (joinG gr a w.length) (joinL gr le a) b = bumps le (hC G).2 := by
    have := joinL_bumps b (joinG gr a w.length) (joinL gr le a) [] (by rw [joinG_len, joinL_len]; omega)
    rw [symsFrom_other (by omega) htb] at this
    rw [hCs, bumps_append, ← hL1]
    simpa using this.symm
  have hbd : ∀ i : Nat, 0 ≤ le.getD i 0 ∧ le.getD i 0 ≤ 65 := fun i => by have := h.ok.bd i; rw [hG] at this; omega
  have hall : ∀ l : List Int, (∀ i : Nat, i < l.length → 0 ≤ l.getD i 0 ∧ l.getD i 0 ≤ 1000) → allIn 0 1000 l = true := fun l hl => allIn_iff.2 fun y hy => by
    obtain ⟨i, hi, rfl⟩ := List.mem_iff_getElem.1 hy
    have := hl i hi
    simpa [List.getD_eq_getElem?_getD, hi] using this
  have hok' := t8.sim hS
  rw [← hL2] at hok'
  refine ⟨⟨hok', by rw [joinG_len, joinG_len, hg8], fun y hy => ?_, fun y hy => ?_, ?_, by simp; have := h.w8; omega, fun i hi hc => ?_⟩, ?_, ?_, a1, b1, by omega, hxb.2, hall _ fun i _ => by have := hbd i; omega, hall _ fun i hi => ?_⟩
  · simp only [List.length_append, List.length_set, List.length_singleton]
    unfold joinG at hy
    simp only [List.mem_map] at hy
    obtain ⟨y2, ⟨y1, hy1, rfl⟩, rfl⟩ := hy
    have := h.grlt y1 hy1
    split
    · omega
    · split <;> omega
  · rcases List.mem_append.1 hy with q | q
    · rcases mem_set0 q with rfl | q
      · omega
      · rcases mem_set0 q with rfl | q
        · omega
        · exact h.wpos y q
    · rw [List.mem_singleton] at q; omega
  · rw [← hS.len]
    have := h.wlen
    rw [hG] at this
    simp only [List.length_append, List.length_set, List.length_singleton]
    omega
  · obtain ⟨u1, u2, u3⟩ := h.unused i hi hc
    have hia : i ≠ a := by rintro rfl; omega
    have hw8 := h.w8
    have hib : i ≠ b := by
      rintro rfl
      rw [getD_set0, if_neg (by omega)] at b2; omega
    have g1 : (joinG gr a w.length).getD i 0 = (i : Int) := by rw [joinG_get _ _ (by omega), if_neg (by omega)]; exact u1
    refine ⟨?_, ?_, ?_⟩
    · rw [joinG_get _ _ (by rw [joinG_len]; omega), g1, if_neg (by omega)]
    · have : ((w.set a 0).set b 0 ++ [x]).getD i 0 = ((w.set a 0).set b 0).getD i 0 := by
        simp [List.getD_eq_getElem?_getD, List.getElem?_append_left, show i < w.length by omega]
      rw [this, getD_set0, if_neg (by omega), getD_set0, if_neg (by omega)]
      exact u2
    · rw [joinL_get _ _ _ (by rw [joinG_len]; omega) (by rw [joinG_len, joinL_len]; omega), g1, if_neg (by omega), joinL_get _ _ _ (by omega) (by omega), if_neg (by omega)]
      exact u3
  · rw [huff_step h2l t3, hL2, ← hS.len]
    exact Sim.huff _ _ hS
  · rw [← hS.len]; omega
  · rw [joinL_len] at hi
    rw [joinL_get _ _ _ (by omega) (by omega)]
    have := hbd i
    split <;> omega

end Go.Mx

/-
  M12: the reference's lengths.
-/
namespace Go.Mx

theorem usedL_same : ∀ (c le : List Int), (∀ i : Nat, i < c.length → c.getD i 0 = 0 → le.getD i 0 = 0) → usedL c le = le
  | [], le, _ => by cases le <;> rfl
  | x :: c, [], _ => rfl
  | x :: c, l :: le, h => by
    have h0 := h 0 (by simp)
    have ih := usedL_same c le (fun i hi hc => by have := h (i + 1) (by simp; omega) (by simpa using hc); simpa using this)
    rw [usedL, ih]
    split
    · rename_i hx
      have := h0 (by simpa using hx)
      simp at this; rw [this]
    · rfl

def ord8 : List Int := [0, 1, 2, 3, 4, 5, 6, 7]

theorem groups0_spec {gr : List Int} : ∀ (c : List Int) (k : Int), (∀ j : Nat, j < c.length → symsFrom 0 gr (k + j) = [k + j]) → groups0 k c = specG gr k c
  | [], k, _ => rfl
  | x :: c, k, h => by
    have h0 := h 0 (by simp)
    have ih := groups0_spec c (k + 1) (fun j hj => by
      have := h (j + 1) (by simp; omega)
      have e : k + 1 + (j : Int) = k + ((j + 1 : Nat) : Int) := by omega
      simp only [e]
      exact this)
    simp at h0
    rw [groups0, specG, ih, h0]

theorem groups0_ord {c : List Int} (h : c.length = 8) : groups0 0 c = specG ord8 0 c := by
  refine groups0_spec c 0 fun j hj => ?_
  have hj' : j = 0 ∨ j = 1 ∨ j = 2 ∨ j = 3 ∨ j = 4 ∨ j = 5 ∨ j = 6 ∨ j = 7 := by omega
  rcases hj' with rfl | rfl | rfl | rfl | rfl | rfl | rfl | rfl <;> rfl

theorem sinv0 {c : List Int} (h : cntOk c = true) (h1 : ¬ (groups0 0 c).length = 1) : SInv c c ord8 zeros8 := by
  have h8 := (cntOk_len h).1
  have H := HOk0 h
  unfold lengths0 at H
  rw [if_neg h1] at H
  have hw : ∀ x ∈ c, 0 ≤ x ∧ x ≤ 999 := fun x hx => by
    simp only [cntOk, Bool.and_eq_true] at h
    exact allIn_iff.1 h.2 x hx
  have hl := (groups0_facts c 0).1
  rw [groups0_ord h8] at H hl
  refine ⟨H, rfl, fun x hx => ?_, fun x hx => by have := hw x hx; omega, by omega, by omega, fun i hi hc => ⟨?_, hc, getD_rep8 i⟩⟩
  · simp [ord8] at hx; omega
  · have hj' : i = 0 ∨ i = 1 ∨ i = 2 ∨ i = 3 ∨ i = 4 ∨ i = 5 ∨ i = 6 ∨ i = 7 := by omega
    rcases hj' with rfl | rfl | rfl | rfl | rfl | rfl | rfl | rfl <;> rfl

theorem sumW_pos {g : List En} (h : ∀ x ∈ g, 0 < x.1) : (g.length : Int) ≤ sumW g := by
  induction g with
  | nil => simp [sumW]
  | cons x g ih =>
    have := ih (fun y hy => h y (List.mem_cons_of_mem _ hy))
    have := h x (List.mem_cons_self ..)
    simp only [sumW, List.length_cons]; omega

theorem spec_used {c w gr le : List Int} (h : SInv c w gr le) (h8 : c.length = 8) : usedL c le = le :=
  usedL_same c le fun i hi hc => (h.unused i (by omega) hc).2.2

/-- Nothing is left. -/
theorem spec_end0 {c w gr le : List Int} (h : SInv c w gr le) (hs : ¬ 0 < sumL w) : huff (specG gr 0 w).length (specG gr 0 w) le = le := by
  refine huff_end ?_
  have := sumW_pos (fun x hx => (h.ok.mem x hx).1)
  rw [sumW_specG (fun x hx => (h.wpos x hx).1)] at this
  omega

/-- One group is left. -/
theorem spec_end1 {c w gr le : List Int} (h : SInv c w gr le) {a : Nat} (ha : leftAt w = a) (hb : leftAt (w.set a 0) < 0) : huff (specG gr 0 w).length (specG gr 0 w) le = le := by
  refine huff_end ?_
  rcases left_least gr w with ⟨h1, _⟩ | ⟨a', h1, a1, a2, a3, a4, a5⟩
  · omega
  have : a' = a := by omega
  subst this
  rcases left_least gr (w.set a' 0) with ⟨h2, h3⟩ | ⟨b', h2, _⟩
  · obtain ⟨r0, r1⟩ := leastAt_range (g := specG gr 0 w) (by omega)
    have hw1 := (without_facts r0 r1).1
    have e : without (specG gr 0 w) (leastAt (specG gr 0 w)) = [] := by rw [← h3]; exact a4
    rw [e] at hw1
    simp at hw1; omega
  · omega

/-- A sum that is not 0 has a least place. -/
theorem left_some {w : List Int} (hp : ∀ x ∈ w, 0 ≤ x) (hs : 0 < sumL w) : ∃ a : Nat, leftAt w = a ∧ a < w.length ∧ 0 < w.getD a 0 := by
  rcases left_least [] w with ⟨_, h1⟩ | ⟨a, h1, a1, a2, _⟩
  · have := sumW_specG (gr := []) (k := 0) hp
    rw [h1] at this; simp [sumW] at this; omega
  · exact ⟨a, h1, a1, a2⟩

/-- One symbol alone. -/
theorem spec_one {c : List Int} (h : cntOk c = true) {a : Nat} (ha : leftAt c = a) (a1 : a < c.length) (hs : sumL c = c.getD a 0) : (groups0 0 c).length = 1 ∧ lengths0 (groups0 0 c) = (List.replicate 8 0).set a 1 := by
  have h8 := (cntOk_len h).1
  have hf := groups0_facts c 0
  have hc : allIn 0 999 c = true := by simp only [cntOk, Bool.and_eq_true] at h; exact h.2
  have hW := (hf.2.2.1 hc).1
  rw [groups0_ord h8] at hf hW ⊢
  rcases left_least ord8 c with ⟨h1, _⟩ | ⟨a', h1, q1, a2, a3, a4, a5⟩
  · omega
  have : a' = a := by omega
  subst this
  generalize specG ord8 0 c = G at *
  obtain ⟨r0, r1⟩ := leastAt_range (g := G) (by omega)
  obtain ⟨w1, w2, w3, w4, w5⟩ := without_facts r0 r1
  have e : G.getD (leastAt G).toNat (0, []) = hA G := rfl
  rw [e, a3] at w3
  have hp := sumW_pos (g := without G (leastAt G)) (fun x hx => (hf.2.2.2 x (w5 x hx)).1)
  simp only at w3
  have hl : (without G (leastAt G)).length = 0 := by omega
  have hG1 : G.length = 1 := by omega
  refine ⟨hG1, ?_⟩
  unfold lengths0
  rw [if_pos hG1]
  have hz : (leastAt G).toNat = 0 := by omega
  have e2 : G.getD 0 (0, []) = (c.getD a' 0, symsFrom 0 ord8 a') := by rw [← a3, ← e, hz]
  rw [e2]
  have hs' : symsFrom 0 ord8 a' = [(a' : Int)] := by
    have hj' : a' = 0 ∨ a' = 1 ∨ a' = 2 ∨ a' = 3 ∨ a' = 4 ∨ a' = 5 ∨ a' = 6 ∨ a' = 7 := by omega
    rcases hj' with rfl | rfl | rfl | rfl | rfl | rfl | rfl | rfl <;> rfl
  simp only [hs', List.getD_cons_zero, zeros8, Int.toNat_natCast]

/-- Several symbols. -/
theorem spec_many {c : List Int} (h : cntOk c = true) {a : Nat} (ha : leftAt c = a) (a1 : a < c.length) (hs : ¬ sumL c = c.getD a 0) : ¬ (groups0 0 c).length = 1 := by
  have h8 := (cntOk_len h).1
  have hc : allIn 0 999 c = true := by simp only [cntOk, Bool.and_eq_true] at h; exact h.2
  have hW := ((groups0_facts c 0).2.2.1 hc).1
  rw [groups0_ord h8] at hW ⊢
  rcases left_least ord8 c with ⟨h1, _⟩ | ⟨a', h1, q1, a2, a3, a4, a5⟩
  · omega
  have : a' = a := by omega
  subst this
  generalize specG ord8 0 c = G at *
  obtain ⟨r0, r1⟩ := leastAt_range (g := G) (by omega)
  obtain ⟨w1, w2, w3, w4, w5⟩ := without_facts r0 r1
  have e : G.getD (leastAt G).toNat (0, []) = hA G := rfl
  rw [e, a3] at w3
  intro hG1
  have hl : without G (leastAt G) = [] := List.eq_nil_of_length_eq_zero (by omega)
  rw [hl] at w3
  simp [sumW] at w3
  exact hs (by rw [← hW, w3]; simp [List.getD_eq_getElem?_getD])

end Go.Mx
