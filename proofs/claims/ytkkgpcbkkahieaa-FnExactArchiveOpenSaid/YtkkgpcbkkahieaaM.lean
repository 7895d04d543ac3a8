/-
  Plain definitions and laws: codes, blocks, archives.
-/
import Derived.Test.YtkkgpcbkkahieaaAx2
import Derived.Test.YtkkgpcbkkahieaaMA
set_option linter.unusedVariables false
set_option linter.unusedSimpArgs false
set_option linter.unusedSectionVars false

/-
  M13: bits and codes.
-/
namespace Go.Mx

/-- A power of two. -/
def p2 (n : Int) : Int := 2 ^ n.toNat

def lensIn (l : List Int) : Bool := decide (l.length = 8) && allIn 0 8 l

def kraft : List Int → Int
  | [] => 0
  | l :: ls => (if 0 < l then p2 (8 - l) else 0) + kraft ls

def kraftD (l : List Int) : Int := if lensIn l = true then kraft l else -1

def lensOk (l : List Int) : Bool := lensIn l && decide (0 < kraft l ∧ kraft l ≤ 256)

/-- The sum of the shares of the codes before a width and a place. -/
def below : Int → List Int → Int → Int → Int
  | _, [], _, _ => 0
  | s, l :: ls, w, i => (if 0 < l ∧ (l < w ∨ (l = w ∧ s < i)) then p2 (8 - l) else 0) + below (s + 1) ls w i

def code (ls : List Int) (s : Nat) : Int := if 0 < ls.getD s 0 then below 0 ls (ls.getD s 0) s / p2 (8 - ls.getD s 0) else -1

def codeUp (ls : List Int) (w i : Int) (s : Nat) : Int := if 0 < ls.getD s 0 ∧ (ls.getD s 0 < w ∨ (ls.getD s 0 = w ∧ (s : Int) < i)) then code ls s else -1

def codesUp (ls : List Int) (w i : Int) : List Int := [codeUp ls w i 0, codeUp ls w i 1, codeUp ls w i 2, codeUp ls w i 3, codeUp ls w i 4, codeUp ls w i 5, codeUp ls w i 6, codeUp ls w i 7]

def codesD (ls : List Int) : List Int := if lensOk ls = true then codesUp ls 9 0 else []

/-- The bits of a number, the lowest last. -/
def bitsOf : Nat → Int → List Int
  | 0, _ => []
  | k + 1, n => bitsOf k (n / 2) ++ [n % 2]

def numOf (l : List Int) : Int := l.foldl (fun n b => 2 * n + b) 0

def bitsIn (l : List Int) : Bool := decide (l.length ≤ 600) && allIn 0 1 l

theorem p2_step {n : Int} (h : 0 ≤ n) : p2 (n + 1) = 2 * p2 n := by
  unfold p2; rw [show (n + 1).toNat = n.toNat + 1 by omega, Int.pow_succ]; omega

theorem p2_zero : p2 0 = 1 := rfl

theorem p2_pos (n : Int) : 0 < p2 n := by unfold p2; exact Int.pow_pos (by omega)

theorem p2_add {a b : Int} (ha : 0 ≤ a) (hb : 0 ≤ b) : p2 (a + b) = p2 a * p2 b := by
  unfold p2; rw [show (a + b).toNat = a.toNat + b.toNat by omega, Int.pow_add]

theorem p2_share {l : Int} (h0 : 0 < l) (h1 : l ≤ 8) : 256 / 2 ^ l.toNat = p2 (8 - l) ∧ 1 ≤ p2 (8 - l) ∧ p2 (8 - l) ≤ 128 := by
  have h : l = 1 ∨ l = 2 ∨ l = 3 ∨ l = 4 ∨ l = 5 ∨ l = 6 ∨ l = 7 ∨ l = 8 := by omega
  rcases h with rfl | rfl | rfl | rfl | rfl | rfl | rfl | rfl <;> decide

theorem lensIn_iff {l : List Int} : lensIn l = true ↔ l.length = 8 ∧ ∀ x ∈ l, 0 ≤ x ∧ x ≤ 8 := by
  simp only [lensIn, Bool.and_eq_true, decide_eq_true_eq]
  exact ⟨fun h => ⟨h.1, fun x hx => allIn_iff.1 h.2 x hx⟩, fun h => ⟨h.1, allIn_iff.2 h.2⟩⟩

theorem kraft_step {l : List Int} {i : Int} (h0 : 0 ≤ i) (h1 : i < (l.length : Int)) : kraft (l.drop i.toNat) = (if 0 < l.getD i.toNat 0 then p2 (8 - l.getD i.toNat 0) else 0) + kraft (l.drop (i + 1).toNat) := by
  rw [drop_lt 0 h0 h1, kraft]

theorem kraft_end {l : List Int} {i : Int} (h : ¬ i < (l.length : Int)) : kraft (l.drop i.toNat) = 0 := by rw [drop_ge h, kraft]

theorem at_mem {l : List Int} {i : Int} (h0 : 0 ≤ i) (h1 : i < (l.length : Int)) : l.getD i.toNat 0 ∈ l := by
  have : i.toNat < l.length := by omega
  simp [List.getD_eq_getElem?_getD, this]

theorem kraft_bd : ∀ {l : List Int}, (∀ x ∈ l, 0 ≤ x ∧ x ≤ 8) → 0 ≤ kraft l ∧ kraft l ≤ 128 * l.length
  | [], _ => by simp [kraft]
  | x :: l, h => by
    have ih := kraft_bd (l := l) (fun y hy => h y (List.mem_cons_of_mem _ hy))
    have hx := h x (List.mem_cons_self ..)
    simp only [kraft, List.length_cons]
    split
    · rename_i hp
      have := p2_share hp hx.2
      omega
    · omega

/-- The sum over a row. -/
theorem below_row {w : Int} (hw : 0 < w) : ∀ (ls : List Int) (s i : Int), s ≤ i → i < s + ls.length → below s ls w (i + 1) = below s ls w i + (if ls.getD (i - s).toNat 0 = w then p2 (8 - w) else 0)
  | [], s, i, h0, h1 => by simp at h1; omega
  | l :: ls, s, i, h0, h1 => by
    simp only [below]
    by_cases hs : i = s
    · subst hs
      have hrest : ∀ (ms : List Int) (t : Int), i < t → below t ms w (i + 1) = below t ms w i := by
        intro ms
        induction ms with
        | nil => intro t _; rfl
        | cons m ms ih =>
          intro t ht
          simp only [below, ih (t + 1) (by omega)]
          have : (0 < m ∧ (m < w ∨ (m = w ∧ t < i + 1))) ↔ (0 < m ∧ (m < w ∨ (m = w ∧ t < i))) := by omega
          simp only [this]
      rw [hrest ls (i + 1) (by omega), Int.sub_self]
      simp only [Int.toNat_zero, List.getD_cons_zero]
      by_cases hl : l = w
      · subst hl
        rw [if_pos (by omega), if_neg (by omega), if_pos rfl]; omega
      · rw [if_neg hl]
        have : (0 < l ∧ (l < w ∨ (l = w ∧ i < i + 1))) ↔ (0 < l ∧ (l < w ∨ (l = w ∧ i < i))) := by omega
        simp only [this]; omega
    · have ih := below_row hw ls (s + 1) i (by omega) (by simp at h1; omega)
      rw [ih]
      have e : (i - s).toNat = (i - (s + 1)).toNat + 1 := by omega
      rw [e, List.getD_cons_succ]
      have : (0 < l ∧ (l < w ∨ (l = w ∧ s < i + 1))) ↔ (0 < l ∧ (l < w ∨ (l = w ∧ s < i))) := by omega
      simp only [this]; omega

theorem below_next {w : Int} : ∀ (ls : List Int) (s i : Int), 0 ≤ s → s + ls.length ≤ i → below s ls w i = below s ls (w + 1) 0
  | [], s, i, h0, h1 => rfl
  | l :: ls, s, i, h0, h1 => by
    have ih := below_next (w := w) ls (s + 1) i (by omega) (by simp at h1; omega)
    simp only [List.length_cons] at h1
    simp only [below, ih]
    have : (0 < l ∧ (l < w ∨ (l = w ∧ s < i))) ↔ (0 < l ∧ (l < w + 1 ∨ (l = w + 1 ∧ s < 0))) := by omega
    simp only [this]

theorem below_start : ∀ (ls : List Int) (s : Int), 0 ≤ s → below s ls 1 0 = 0
  | [], s, _ => rfl
  | l :: ls, s, h => by
    rw [below, below_start ls (s + 1) (by omega), if_neg (by omega)]; rfl

theorem below_all : ∀ {ls : List Int} (s : Int), (∀ x ∈ ls, 0 ≤ x ∧ x ≤ 8) → below s ls 9 0 = kraft ls
  | [], s, _ => rfl
  | l :: ls, s, h => by
    have hl := h l (List.mem_cons_self ..)
    rw [below, kraft, below_all (s + 1) (fun y hy => h y (List.mem_cons_of_mem _ hy))]
    have : (0 < l ∧ (l < 9 ∨ (l = 9 ∧ s < 0))) ↔ 0 < l := by omega
    simp only [this]

theorem below_le : ∀ (ls : List Int) (s w i : Int), 0 ≤ below s ls w i ∧ below s ls w i ≤ kraft ls
  | [], s, w, i => by simp [below, kraft]
  | l :: ls, s, w, i => by
    have ih := below_le ls (s + 1) w i
    have := p2_pos (8 - l)
    simp only [below, kraft]
    split
    · rename_i h; rw [if_pos h.1]; omega
    · split <;> omega

theorem code_at {ls : List Int} {w i n : Int} (h0 : 0 ≤ i) (hw : 0 < w) (hl : ls.getD i.toNat 0 = w) (hn : n * p2 (8 - w) = below 0 ls w i) : code ls i.toNat = n := by
  unfold code
  rw [hl, if_pos hw, show ((i.toNat : Nat) : Int) = i by omega, ← hn]
  exact Int.mul_ediv_cancel _ (by have := p2_pos (8 - w); omega)

theorem codesUp_set {ls : List Int} {w i : Int} (h0 : 0 ≤ i) (h1 : i < 8) (hw : 0 < w) (hl : ls.getD i.toNat 0 = w) : codesUp ls w (i + 1) = (codesUp ls w i).set i.toNat (code ls i.toNat) := by
  have hk : ∀ s : Nat, (s : Int) ≠ i → codeUp ls w (i + 1) s = codeUp ls w i s := fun s hs => by
    unfold codeUp
    have : (0 < ls.getD s 0 ∧ (ls.getD s 0 < w ∨ (ls.getD s 0 = w ∧ (s : Int) < i + 1))) ↔ (0 < ls.getD s 0 ∧ (ls.getD s 0 < w ∨ (ls.getD s 0 = w ∧ (s : Int) < i))) := by omega
    simp only [this]
  have hi : codeUp ls w (i + 1) i.toNat = code ls i.toNat := by unfold codeUp; rw [hl, if_pos (by omega)]
  have h : i = 0 ∨ i = 1 ∨ i = 2 ∨ i = 3 ∨ i = 4 ∨ i = 5 ∨ i = 6 ∨ i = 7 := by omega
  unfold codesUp
  rcases h with rfl | rfl | rfl | rfl | rfl | rfl | rfl | rfl <;>
    (rw [← hi]
     first
     | rw [hk 1 (by omega), hk 2 (by omega), hk 3 (by omega), hk 4 (by omega), hk 5 (by omega), hk 6 (by omega), hk 7 (by omega)]; rfl
     | rw [hk 0 (by omega), hk 2 (by omega), hk 3 (by omega), hk 4 (by omega), hk 5 (by omega), hk 6 (by omega), hk 7 (by omega)]; rfl
     | rw [hk 0 (by omega), hk 1 (by omega), hk 3 (by omega), hk 4 (by omega), hk 5 (by omega), hk 6 (by omega), hk 7 (by omega)]; rfl
     | rw [hk 0 (by omega), hk 1 (by omega), hk 2 (by omega), hk 4 (by omega), hk 5 (by omega), hk 6 (by omega), hk 7 (by omega)]; rfl
     | rw [hk 0 (by omega), hk 1 (by omega), hk 2 (by omega), hk 3 (by omega), hk 5 (by omega), hk 6 (by omega), hk 7 (by omega)]; rfl
     | rw [hk 0 (by omega), hk 1 (by omega), hk 2 (by omega), hk 3 (by omega), hk 4 (by omega), hk 6 (by omega), hk 7 (by omega)]; rfl
     | rw [hk 0 (by omega), hk 1 (by omega), hk 2 (by omega), hk 3 (by omega), hk 4 (by omega), hk 5 (by omega), hk 7 (by omega)]; rfl
     | rw [hk 0 (by omega), hk 1 (by omega), hk 2 (by omega), hk 3 (by omega), hk 4 (by omega), hk 5 (by omega), hk 6 (by omega)]; rfl)

theorem codesUp_same {ls : List Int} {w i : Int} (h0 : 0 ≤ i) (hl : ¬ ls.getD i.toNat 0 = w) : codesUp ls w (i + 1) = codesUp ls w i := by
  have hk : ∀ s : Nat, codeUp ls w (i + 1) s = codeUp ls w i s := fun s => by
    unfold codeUp
    have : (0 < ls.getD s 0 ∧ (ls.getD s 0 < w ∨ (ls.getD s 0 = w ∧ (s : Int) < i + 1))) ↔ (0 < ls.getD s 0 ∧ (ls.getD s 0 < w ∨ (ls.getD s 0 = w ∧ (s : Int) < i))) := by
      by_cases hs : (s : Int) = i
      · have : s = i.toNat := by omega
        subst this; omega
      · omega
    simp only [this]
  unfold codesUp
  simp only [hk]

theorem codesUp_next {ls : List Int} {w i : Int} (hi : 8 ≤ i) : codesUp ls w i = codesUp ls (w + 1) 0 := by
  have hk : ∀ s : Nat, s < 8 → codeUp ls w i s = codeUp ls (w + 1) 0 s := fun s hs => by
    unfold codeUp
    have : (0 < ls.getD s 0 ∧ (ls.getD s 0 < w ∨ (ls.getD s 0 = w ∧ (s : Int) < i))) ↔ (0 < ls.getD s 0 ∧ (ls.getD s 0 < w + 1 ∨ (ls.getD s 0 = w + 1 ∧ (s : Int) < 0))) := by omega
    simp only [this]
  unfold codesUp
  rw [hk 0 (by omega), hk 1 (by omega), hk 2 (by omega), hk 3 (by omega), hk 4 (by omega), hk 5 (by omega), hk 6 (by omega), hk 7 (by omega)]

theorem codesUp_start (ls : List Int) : codesUp ls 1 0 = List.replicate 8 (-1) := by
  have hk : ∀ s : Nat, codeUp ls 1 0 s = -1 := fun s => by
    unfold codeUp
    rw [if_neg (by omega)]
  unfold codesUp
  simp only [hk]; rfl

theorem codesUp_len (ls : List Int) (w i : Int) : (codesUp ls w i).length = 8 := rfl

end Go.Mx

/-
  M14: bits as numbers.
-/
namespace Go.Mx

theorem bitsOf_len : ∀ (k : Nat) (n : Int), (bitsOf k n).length = k
  | 0, n => rfl
  | k + 1, n => by simp [bitsOf, bitsOf_len k]

theorem bitsOf_in : ∀ (k : Nat) (n : Int), 0 ≤ n → allIn 0 1 (bitsOf k n) = true
  | 0, n, h => rfl
  | k + 1, n, h => by
    refine allIn_iff.2 fun x hx => ?_
    rcases List.mem_append.1 hx with q | q
    · exact allIn_iff.1 (bitsOf_in k (n / 2) (by omega)) x q
    · rw [List.mem_singleton] at q; omega

/-- The bits from the top: one more. -/
theorem bitsOf_top : ∀ (k : Nat) (n : Int), 0 ≤ n → bitsOf (k + 1) n = (n / 2 ^ k % 2) :: bitsOf k n
  | 0, n, h => by simp [bitsOf]
  | k + 1, n, h => by
    rw [bitsOf, bitsOf_top k (n / 2) (by omega), bitsOf, List.cons_append]
    congr 1
    rw [Int.ediv_ediv_of_nonneg (by omega), Int.pow_succ, Int.mul_comm 2]

theorem numOf_snoc (l : List Int) (b : Int) : numOf (l ++ [b]) = 2 * numOf l + b := by unfold numOf; rw [List.foldl_append]; rfl

theorem numOf_bd : ∀ {l : List Int}, allIn 0 1 l = true → 0 ≤ numOf l ∧ numOf l + 1 ≤ 2 ^ l.length := by
  intro l
  have key : ∀ (m : List Int) (n : Int) (k : Nat), allIn 0 1 m = true → 0 ≤ n → n + 1 ≤ 2 ^ k → 0 ≤ m.foldl (fun n b => 2 * n + b) n ∧ m.foldl (fun n b => 2 * n + b) n + 1 ≤ 2 ^ (k + m.length) := by
    intro m
    induction m with
    | nil => intro n k _ h0 h1; exact ⟨h0, h1⟩
    | cons b m ih =>
      intro n k h h0 h1
      simp only [allIn, Bool.and_eq_true, decide_eq_true_eq] at h
      have := ih (2 * n + b) (k + 1) h.2 (by omega) (by rw [Int.pow_succ]; omega)
      simp only [List.foldl_cons, List.length_cons]
      rw [show k + (m.length + 1) = k + 1 + m.length by omega]
      exact this
  intro h
  have := key l 0 0 h (by omega) (by simp)
  rw [Nat.zero_add] at this
  exact this

end Go.Mx

/-
  M15: bits as bytes.
-/
namespace Go.Mx

def pad8 (x : List Int) : List Int := x ++ List.replicate (8 - x.length) 0

def byteAt (l : List Int) (j : Nat) : Int := numOf (pad8 ((l.drop (8 * j)).take 8))

def bytesOf (l : List Int) : List Int := (List.range ((l.length + 7) / 8)).map (byteAt l)

theorem numOf_zeros (x : List Int) : ∀ m : Nat, numOf (x ++ List.replicate m 0) = numOf x * 2 ^ m
  | 0 => by simp
  | m + 1 => by
    rw [List.replicate_succ', ← List.append_assoc, numOf_snoc, numOf_zeros x m, Int.pow_succ, Int.add_zero, Int.mul_comm 2, Int.mul_assoc]

theorem byteAt_same {l : List Int} {n j : Nat} (h : 8 * j + 8 ≤ n) : byteAt (l.take n) j = byteAt l j := by
  unfold byteAt
  rw [List.drop_take, List.take_take, Nat.min_eq_left (by omega)]

theorem byteAt_none {l : List Int} {j : Nat} (h : l.length ≤ 8 * j) : byteAt l j = 0 := by
  unfold byteAt
  rw [List.drop_of_length_le h]
  rfl

/-- The bits of a byte that is not yet whole. -/
theorem byteAt_part {l : List Int} {n j : Nat} (h0 : 8 * j ≤ n) (h1 : n ≤ 8 * j + 8) (hn : n ≤ l.length) : byteAt (l.take n) j = numOf ((l.take n).drop (8 * j)) * 2 ^ (8 * j + 8 - n) := by
  have hl : ((l.take n).drop (8 * j)).length = n - 8 * j := by simp; omega
  unfold byteAt pad8
  rw [List.take_of_length_le (by omega), numOf_zeros, hl]
  congr 2; omega

theorem byte_step {l : List Int} {i : Nat} (hi : i < l.length) : byteAt (l.take (i + 1)) (i / 8) = byteAt (l.take i) (i / 8) + l.getD i 0 * 2 ^ (7 - i % 8) ∧ byteAt (l.take i) (i / 8) = numOf ((l.take i).drop (8 * (i / 8))) * 2 ^ (8 - i % 8) := by
  have h1 := byteAt_part (l := l) (n := i) (j := i / 8) (by omega) (by omega) (by omega)
  have h2 := byteAt_part (l := l) (n := i + 1) (j := i / 8) (by omega) (by omega) (by omega)
  have e : (l.take (i + 1)).drop (8 * (i / 8)) = (l.take i).drop (8 * (i / 8)) ++ [l.getD i 0] := by
    have := take_lt (l := l) 0 (i := (i : Int)) (by omega) (by omega)
    rw [show ((i : Int) + 1).toNat = i + 1 by omega, show ((i : Int)).toNat = i by omega] at this
    rw [this, List.drop_append_of_le_length (by simp; omega)]
  rw [e, numOf_snoc, show 8 * (i / 8) + 8 - (i + 1) = 7 - i % 8 by omega] at h2
  rw [show 8 * (i / 8) + 8 - i = (7 - i % 8) + 1 by omega] at h1
  have e8 : 8 - i % 8 = (7 - i % 8) + 1 := by omega
  refine ⟨?_, by rw [e8]; exact h1⟩
  rw [h2, h1, Int.pow_succ, Int.add_mul, ← Int.mul_assoc, Int.mul_comm 2 (numOf _), Int.mul_assoc, Int.mul_comm 2 (2 ^ _), ← Int.mul_assoc]

theorem byte_other {l : List Int} {i j : Nat} (hi : i < l.length) (hj : j ≠ i / 8) : byteAt (l.take (i + 1)) j = byteAt (l.take i) j := by
  by_cases h : j < i / 8
  · rw [byteAt_same (by omega), byteAt_same (by omega)]
  · rw [byteAt_none (by simp; omega), byteAt_none (by simp; omega)]

theorem bytes_set {l : List Int} {i nb : Nat} (hi : i < l.length) (hb : i / 8 < nb) : ((List.range nb).map (byteAt (l.take i))).set (i / 8) (byteAt (l.take i) (i / 8) + l.getD i 0 * 2 ^ (7 - i % 8)) = (List.range nb).map (byteAt (l.take (i + 1))) := by
  apply List.ext_getElem?
  intro j
  rw [List.getElem?_set]
  by_cases hj : i / 8 = j
  · subst hj
    simp [hb, (byte_step hi).1]
  · rw [if_neg hj]
    by_cases hjn : j < nb
    · simp [hjn, byte_other hi (Ne.symm hj)]
    · simp [hjn]

theorem byte_bd {l : List Int} (h : allIn 0 1 l = true) {i : Nat} (hi : i < l.length) : 0 ≤ byteAt (l.take i) (i / 8) ∧ byteAt (l.take i) (i / 8) ≤ 255 ∧ 0 ≤ l.getD i 0 * 2 ^ (7 - i % 8) ∧ l.getD i 0 * 2 ^ (7 - i % 8) < 2 ^ (8 - i % 8) ∧ l.getD i 0 * 2 ^ (7 - i % 8) ≤ 128 ∧ byteAt (l.take i) (i / 8) % 2 ^ (8 - i % 8) = 0 := by
  have h2 := (byte_step hi).2
  have hm : i % 8 < 8 := Nat.mod_lt _ (by omega)
  have hx : 0 ≤ l.getD i 0 ∧ l.getD i 0 ≤ 1 := allIn_iff.1 h _ (by simp [List.getD_eq_getElem?_getD, hi])
  have hlen : ((l.take i).drop (8 * (i / 8))).length = i % 8 := by simp; omega
  have hb := numOf_bd (l := (l.take i).drop (8 * (i / 8))) (allIn_iff.2 fun x hx => allIn_iff.1 h x (List.mem_of_mem_take (List.mem_of_mem_drop hx)))
  rw [hlen] at hb
  have hdvd : byteAt (l.take i) (i / 8) % 2 ^ (8 - i % 8) = 0 := by rw [h2]; exact Int.mul_emod_left _ _
  generalize byteAt (l.take i) (i / 8) = a at *
  generalize numOf ((l.take i).drop (8 * (i / 8))) = q at *
  generalize l.getD i 0 = x at *
  generalize i % 8 = m at *
  have hmm : m = 0 ∨ m = 1 ∨ m = 2 ∨ m = 3 ∨ m = 4 ∨ m = 5 ∨ m = 6 ∨ m = 7 := by omega
  refine ⟨?_, ?_, ?_, ?_, ?_, hdvd⟩ <;> (rcases hmm with rfl | rfl | rfl | rfl | rfl | rfl | rfl | rfl <;> simp at * <;> omega)

theorem bytesOf_len (l : List Int) : (bytesOf l).length = (l.length + 7) / 8 := by simp [bytesOf]

/-- Nothing is changed by what a last byte lacks. -/
theorem byteAt_pad {l : List Int} (h : ¬ l.length % 8 = 0) (j : Nat) : byteAt (l ++ [0]) j = byteAt l j := by
  by_cases h1 : 8 * j + 8 ≤ l.length
  · have := byteAt_same (l := l ++ [0]) (n := l.length) (j := j) h1
    rw [List.take_left] at this
    exact this.symm
  · by_cases h2 : l.length ≤ 8 * j
    · rw [byteAt_none h2, byteAt_none (by simp; omega)]
    · unfold byteAt
      rw [List.drop_append_of_le_length (by omega), List.take_of_length_le (by simp; omega), List.take_of_length_le (by simp; omega)]
      unfold pad8
      rw [List.append_assoc]
      congr 2
      have : 8 - (List.drop (8 * j) l).length = (8 - (List.drop (8 * j) l ++ [0]).length) + 1 := by simp; omega
      rw [this, List.replicate_succ]; rfl

theorem bytesOf_pad {l : List Int} (h : ¬ l.length % 8 = 0) : bytesOf (l ++ [0]) = bytesOf l := by
  unfold bytesOf
  have e : ((l ++ [(0 : Int)]).length + 7) / 8 = (l.length + 7) / 8 := by simp; omega
  rw [e]
  exact List.map_congr_left fun j _ => byteAt_pad h j

end Go.Mx

/-
  M16: codes of lists.
-/
namespace Go.Mx

theorem below_dvd {w i : Int} (hw : w ≤ 8) : ∀ (ls : List Int) (s : Int), ∃ q, 0 ≤ q ∧ below s ls w i = q * p2 (8 - w)
  | [], s => ⟨0, by omega, by simp [below]⟩
  | l :: ls, s => by
    obtain ⟨q, h0, h1⟩ := below_dvd hw ls (s + 1)
    simp only [below]
    split
    · rename_i h
      have hp := p2_pos (w - l)
      refine ⟨p2 (w - l) + q, by omega, ?_⟩
      rw [h1, Int.add_mul, ← p2_add (by omega) (by omega)]
      congr 2; omega
    · exact ⟨q, h0, by omega⟩

/-- A code, its share and its bound. -/
theorem code_ok {ls : List Int} (h : lensOk ls = true) {s : Nat} (hs : s < 8) (hp : 0 < ls.getD s 0) : 0 ≤ code ls s ∧ code ls s * p2 (8 - ls.getD s 0) = below 0 ls (ls.getD s 0) s ∧ code ls s ≤ p2 (ls.getD s 0) - 1 ∧ ls.getD s 0 ≤ 8 := by
  simp only [lensOk, Bool.and_eq_true, decide_eq_true_eq] at h
  obtain ⟨h8, hm⟩ := lensIn_iff.1 h.1
  have hb := hm _ (at_mem (l := ls) (i := (s : Int)) (by omega) (by omega))
  rw [show ((s : Int)).toNat = s by omega] at hb
  obtain ⟨q, q0, q1⟩ := below_dvd (i := (s : Int)) hb.2 ls 0
  have hc := code_at (ls := ls) (w := ls.getD s 0) (i := (s : Int)) (n := q) (by omega) hp (by rw [show ((s : Int)).toNat = s by omega]) q1.symm
  rw [show ((s : Int)).toNat = s by omega] at hc
  rw [hc]
  refine ⟨q0, q1.symm, ?_, hb.2⟩
  have hr := below_row (w := ls.getD s 0) hp ls 0 s (by omega) (by omega)
  rw [Int.sub_zero, show ((s : Int)).toNat = s by omega, if_pos rfl, q1] at hr
  have hle := (below_le ls 0 (ls.getD s 0) (s + 1)).2
  have e : p2 (ls.getD s 0) * p2 (8 - ls.getD s 0) = 256 := by
    rw [← p2_add (by omega) (by omega), show ls.getD s 0 + (8 - ls.getD s 0) = 8 by omega]; rfl
  have hsh := p2_pos (8 - ls.getD s 0)
  have : (q + 1) * p2 (8 - ls.getD s 0) ≤ p2 (ls.getD s 0) * p2 (8 - ls.getD s 0) := by rw [Int.add_mul, e]; omega
  have := Int.le_of_mul_le_mul_right this hsh
  omega

theorem codesD_len {ls : List Int} (h : lensOk ls = true) : (codesD ls).length = 8 := by unfold codesD; rw [if_pos h]; rfl

theorem codesD_get {ls : List Int} (h : lensOk ls = true) {s : Int} (h0 : 0 ≤ s) (h1 : s ≤ 7) : (codesD ls).getD s.toNat 0 = code ls s.toNat := by
  have h' := h
  simp only [lensOk, Bool.and_eq_true, decide_eq_true_eq] at h'
  obtain ⟨h8, hm⟩ := lensIn_iff.1 h'.1
  have hk : ∀ n : Nat, n < 8 → codeUp ls 9 0 n = code ls n := fun n hn => by
    have hb := hm _ (at_mem (l := ls) (i := (n : Int)) (by omega) (by omega))
    rw [show ((n : Int)).toNat = n by omega] at hb
    unfold codeUp
    split
    · rfl
    · unfold code; rw [if_neg (by omega)]
  unfold codesD
  rw [if_pos h]
  have hs : s = 0 ∨ s = 1 ∨ s = 2 ∨ s = 3 ∨ s = 4 ∨ s = 5 ∨ s = 6 ∨ s = 7 := by omega
  rcases hs with rfl | rfl | rfl | rfl | rfl | rfl | rfl | rfl <;> exact hk _ (by omega)

/-- A list's bits. -/
def enc (ls : List Int) : List Int → List Int
  | [] => []
  | s :: t => bitsOf (ls.getD s.toNat 0).toNat (code ls s.toNat) ++ enc ls t

def encOk (ls l : List Int) : Bool := l.all (fun s => decide (0 < ls.getD s.toNat 0))

def encD (l ls : List Int) : Option (List Int) := if (LV l && lensOk ls && encOk ls l) = true then some (enc ls l) else none

theorem enc_append (ls : List Int) : ∀ (a b : List Int), enc ls (a ++ b) = enc ls a ++ enc ls b
  | [], b => rfl
  | s :: a, b => by simp [enc, enc_append ls a b]

theorem enc_step {ls l : List Int} {i : Int} (h0 : 0 ≤ i) (h1 : i < (l.length : Int)) : enc ls (l.take (i + 1).toNat) = enc ls (l.take i.toNat) ++ bitsOf (ls.getD (l.getD i.toNat 0).toNat 0).toNat (code ls (l.getD i.toNat 0).toNat) := by
  rw [take_lt 0 h0 h1, enc_append]; simp [enc]

theorem encOk_step {ls l : List Int} {i : Int} (h0 : 0 ≤ i) (h1 : i < (l.length : Int)) : encOk ls (l.take (i + 1).toNat) = (encOk ls (l.take i.toNat) && decide (0 < ls.getD (l.getD i.toNat 0).toNat 0)) := by
  rw [take_lt 0 h0 h1]; unfold encOk; rw [List.all_append]; simp

theorem encOk_no {ls l : List Int} {i : Int} (h0 : 0 ≤ i) (h1 : i < (l.length : Int)) (h : ¬ 0 < ls.getD (l.getD i.toNat 0).toNat 0) : encOk ls l = false := by
  unfold encOk
  rw [List.all_eq_false]
  exact ⟨_, at_mem h0 h1, by simpa using h⟩

theorem enc_bd {ls : List Int} (h : lensOk ls = true) : ∀ {l : List Int}, (∀ s ∈ l, 0 ≤ s ∧ s ≤ 7) → encOk ls l = true → ((enc ls l).length : Int) ≤ 8 * l.length ∧ allIn 0 1 (enc ls l) = true
  | [], _, _ => ⟨by simp [enc], rfl⟩
  | s :: l, hs, hk => by
    simp only [encOk, List.all_cons, Bool.and_eq_true, decide_eq_true_eq] at hk
    obtain ⟨q1, q2⟩ := enc_bd h (l := l) (fun x hx => hs x (List.mem_cons_of_mem _ hx)) hk.2
    have hs0 := hs s (List.mem_cons_self ..)
    obtain ⟨c1, c2, c3, c4⟩ := code_ok h (s := s.toNat) (by omega) hk.1
    refine ⟨?_, ?_⟩
    · simp only [enc, List.length_append, bitsOf_len, List.length_cons]; omega
    · refine allIn_iff.2 fun x hx => ?_
      simp only [enc] at hx
      rcases List.mem_append.1 hx with q | q
      · exact allIn_iff.1 (bitsOf_in _ _ c1) x q
      · exact allIn_iff.1 q2 x q

theorem code_neg {ls : List Int} (h : lensOk ls = true) {s : Int} (h0 : 0 ≤ s) (h1 : s ≤ 7) : (codesD ls).getD s.toNat 0 < 0 ↔ ¬ 0 < ls.getD s.toNat 0 := by
  rw [codesD_get h h0 h1]
  by_cases hp : 0 < ls.getD s.toNat 0
  · have := (code_ok h (s := s.toNat) (by omega) hp).1
    omega
  · unfold code; rw [if_neg hp]; omega

end Go.Mx

/-
  M17: the best tokens.
-/
namespace Go.Mx

/-- Matches at a place: of one distance, from a length on, n of them. -/
def candLens (back : Int) : Nat → Int → List R2
  | 0, _ => []
  | n + 1, k => (back, k) :: candLens back n (k + 1)

/-- Matches at a place: from a distance on, n distances. -/
def candBacks (l : List Int) (i : Int) : Nat → Int → List R2
  | 0, _ => []
  | n + 1, b => candLens b (mlong l i b - 1).toNat 2 ++ candBacks l i n (b + 1)

def cands (l : List Int) (i : Int) : List R2 := candBacks l i (min 16 i).toNat 1

/-- The least cost; c: the costs behind a place. -/
def leastC (c : List Int) : List R2 → Int → Int
  | [], b => b
  | x :: xs, b => leastC c xs (min b (8 + c.getD (x.2 - 1).toNat 0))

def headC (l : List Int) (i : Int) (c : List Int) : Int := leastC c (cands l i) (4 + c.getD 0 0)

/-- The costs from n places before the end on. -/
def costsN (l : List Int) : Nat → List Int
  | 0 => [0]
  | n + 1 => headC l ((l.length : Int) - (n + 1)) (costsN l n) :: costsN l n

/-- The first match with a cost. -/
def firstC (c : List Int) (m : Int) : List R2 → P3
  | [] => (0, 0, 0)
  | x :: xs => if m = 8 + c.getD (x.2 - 1).toNat 0 then (0, x.1, x.2) else firstC c m xs

/-- The token at a place. -/
def bestTok (l : List Int) (i : Int) (c : List Int) : P3 := if headC l i c = 4 + c.getD 0 0 then (l.getD i.toNat 0, 0, 0) else firstC c (headC l i c) (cands l i)

theorem candLens_step (b : Int) {n : Nat} {k : Int} : candLens b (n + 1) k = (b, k) :: candLens b n (k + 1) := rfl

theorem costsN_len (l : List Int) : ∀ n, (costsN l n).length = n + 1
  | 0 => rfl
  | n + 1 => by simp [costsN, costsN_len l n]

/-- The reference's way: a token is kept with its cost. -/
def keepC (c : List Int) : List R2 → Int × P3 → Int × P3
  | [], s => s
  | x :: xs, s => keepC c xs (if 8 + c.getD (x.2 - 1).toNat 0 < s.1 then (8 + c.getD (x.2 - 1).toNat 0, (0, x.1, x.2)) else s)

theorem leastC_le (c : List Int) : ∀ (xs : List R2) (b : Int), leastC c xs b ≤ b
  | [], b => by simp [leastC]
  | x :: xs, b => by have := leastC_le c xs (min b (8 + c.getD (x.2 - 1).toNat 0)); simp only [leastC]; omega

theorem keepC_least (c : List Int) : ∀ (xs : List R2) (b : Int) (t : P3), (keepC c xs (b, t)).1 = leastC c xs b ∧ (keepC c xs (b, t)).2 = if leastC c xs b = b then t else firstC c (leastC c xs b) xs
  | [], b, t => by simp [keepC, leastC]
  | x :: xs, b, t => by
    simp only [keepC, leastC, firstC]
    obtain ⟨v, hv⟩ : ∃ v, 8 + c.getD (x.2 - 1).toNat 0 = v := ⟨_, rfl⟩
    simp only [hv]
    by_cases h : v < b
    · rw [if_pos h]
      obtain ⟨q1, q2⟩ := keepC_least c xs v (0, x.1, x.2)
      have hm : min b v = v := by omega
      have hle := leastC_le c xs v
      rw [hm]
      refine ⟨q1, ?_⟩
      rw [q2, if_neg (show ¬ leastC c xs v = b by omega)]
    · rw [if_neg h]
      obtain ⟨q1, q2⟩ := keepC_least c xs b t
      have hm : min b v = b := by omega
      have hle := leastC_le c xs b
      rw [hm]
      refine ⟨q1, ?_⟩
      rw [q2]
      by_cases e : leastC c xs b = b
      · rw [if_pos e, if_pos e]
      · rw [if_neg e, if_neg e, if_neg (by omega)]

theorem costs_drop (l : List Int) : ∀ (n m : Nat), m ≤ n → (costsN l n).drop (n - m) = costsN l m
  | 0, 0, _ => rfl
  | n + 1, m, h => by
    by_cases e : m = n + 1
    · subst e; simp
    · rw [show n + 1 - m = (n - m) + 1 by omega, costsN, List.drop_succ_cons]
      exact costs_drop l n m (by omega)
  | 0, m + 1, h => by omega

/-- The tokens that are best at each of the last n places. -/
def toksN (l : List Int) : Nat → List P3
  | 0 => []
  | n + 1 => bestTok l ((l.length : Int) - (n + 1)) (costsN l n) :: toksN l n

/-- The best tokens from a place on. -/
def parseN (l : List Int) : Nat → Int → List P3
  | 0, _ => []
  | n + 1, i => if i < (l.length : Int) then bestTok l i ((costsN l l.length).drop (i + 1).toNat) :: parseN l n (i + max (bestTok l i ((costsN l l.length).drop (i + 1).toNat)).2.2 1) else []

def parseD (l : List Int) : List P3 := if LV l = true then parseN l l.length 0 else []

theorem headC_bd {l : List Int} {i : Int} {c : List Int} {B : Int} (hc : ∀ x ∈ c, 0 ≤ x ∧ x ≤ B) (hB : 0 ≤ B) : 0 ≤ headC l i c ∧ headC l i c ≤ B + 4 := by
  have hg : ∀ n : Nat, 0 ≤ c.getD n 0 ∧ c.getD n 0 ≤ B := fun n => by
    by_cases h : n < c.length
    · exact hc _ (by simp [List.getD_eq_getElem?_getD, h])
    · simp [List.getD_eq_getElem?_getD, List.getElem?_eq_none (show c.length ≤ n by omega), hB]
  have key : ∀ (xs : List R2) (b : Int), 0 ≤ b → 0 ≤ leastC c xs b := by
    intro xs
    induction xs with
    | nil => intro b h; exact h
    | cons x xs ih => intro b h; have := hg (x.2 - 1).toNat; exact ih _ (by omega)
  have h0 := hg 0
  have h1 := leastC_le c (cands l i) (4 + c.getD 0 0)
  unfold headC
  exact ⟨key _ _ (by omega), by omega⟩

theorem costsN_bd (l : List Int) : ∀ (n : Nat), ∀ x ∈ costsN l n, 0 ≤ x ∧ x ≤ 4 * (n : Int)
  | 0, x, h => by simp [costsN] at h; omega
  | n + 1, x, h => by
    rw [costsN] at h
    rcases List.mem_cons.1 h with rfl | q
    · have := headC_bd (l := l) (i := (l.length : Int) - (n + 1)) (costsN_bd l n) (by omega); omega
    · have := costsN_bd l n x q; omega

end Go.Mx

/-
  M18: what the best tokens are.
-/
namespace Go.Mx

theorem set_dropT {α : Type} {l : List α} {i : Int} {v : α} (h0 : 0 ≤ i) : (l.set i.toNat v).drop (i + 1).toNat = l.drop (i + 1).toNat := by
  rw [List.drop_set, if_pos (by omega)]

/-- A token that fits a list at a place. -/
def fits (l : List Int) (i : Int) (x : P3) : Prop := x = (l.getD i.toNat 0, 0, 0) ∨ (x.1 = 0 ∧ 1 ≤ x.2.1 ∧ x.2.1 ≤ min 16 i ∧ 2 ≤ x.2.2 ∧ x.2.2 ≤ mlong l i x.2.1)

theorem mem_candLens (b : Int) : ∀ (n : Nat) (k : Int) (x : R2), x ∈ candLens b n k → x.1 = b ∧ k ≤ x.2 ∧ x.2 < k + n
  | 0, k, x, h => by cases h
  | n + 1, k, x, h => by
    rw [candLens_step] at h
    rcases List.mem_cons.1 h with q | q
    · subst q; exact ⟨rfl, Int.le_refl _, by show k < _; omega⟩
    · obtain ⟨h1, h2, h3⟩ := mem_candLens b n (k + 1) x q
      exact ⟨h1, by omega, by omega⟩

theorem mem_candBacks (l : List Int) (i : Int) : ∀ (n : Nat) (b : Int) (x : R2), x ∈ candBacks l i n b → b ≤ x.1 ∧ x.1 < b + n ∧ 2 ≤ x.2 ∧ x.2 ≤ mlong l i x.1
  | 0, b, x, h => by cases h
  | n + 1, b, x, h => by
    rw [candBacks] at h
    rcases List.mem_append.1 h with q | q
    · obtain ⟨h1, h2, h3⟩ := mem_candLens b _ 2 x q
      rw [h1]
      exact ⟨by omega, by omega, by omega, by omega⟩
    · obtain ⟨h1, h2, h3⟩ := mem_candBacks l i n (b + 1) x q
      exact ⟨by omega, by omega, h3⟩

theorem leastC_cases (c : List Int) : ∀ (xs : List R2) (b : Int), leastC c xs b = b ∨ ∃ x ∈ xs, leastC c xs b = 8 + c.getD (x.2 - 1).toNat 0
  | [], b => .inl rfl
  | x :: xs, b => by
    rw [leastC]
    rcases leastC_cases c xs (min b (8 + c.getD (x.2 - 1).toNat 0)) with h | ⟨y, h1, h2⟩
    · rw [h]
      by_cases q : b ≤ 8 + c.getD (x.2 - 1).toNat 0
      · exact .inl (by omega)
      · exact .inr ⟨x, List.mem_cons_self .., by omega⟩
    · exact .inr ⟨y, List.mem_cons_of_mem _ h1, h2⟩

theorem firstC_hit {c : List Int} {m : Int} : ∀ {xs : List R2}, (∃ x ∈ xs, m = 8 + c.getD (x.2 - 1).toNat 0) → ∃ x ∈ xs, firstC c m xs = (0, x.1, x.2)
  | [], h => by obtain ⟨x, h, _⟩ := h; cases h
  | x :: xs, h => by
    rw [firstC]
    by_cases q : m = 8 + c.getD (x.2 - 1).toNat 0
    · exact ⟨x, List.mem_cons_self .., if_pos q⟩
    · rw [if_neg q]
      obtain ⟨y, hy, e⟩ := h
      rcases List.mem_cons.1 hy with r | r
      · subst r; exact absurd e q
      · obtain ⟨z, z1, z2⟩ := firstC_hit (xs := xs) ⟨y, r, e⟩
        exact ⟨z, List.mem_cons_of_mem _ z1, z2⟩

theorem bestTok_fits (l : List Int) {i : Int} (c : List Int) (h0 : 0 ≤ i) : fits l i (bestTok l i c) := by
  unfold bestTok
  by_cases h : headC l i c = 4 + c.getD 0 0
  · rw [if_pos h]; exact .inl rfl
  · rw [if_neg h]
    obtain ⟨x, hx, e⟩ := firstC_hit (xs := cands l i) ((leastC_cases c (cands l i) (4 + c.getD 0 0)).resolve_left h)
    obtain ⟨h1, h2, h3, h4⟩ := mem_candBacks l i _ 1 x hx
    refine .inr ?_
    have e' : firstC c (headC l i c) (cands l i) = (0, x.1, x.2) := e
    rw [e']
    exact ⟨rfl, h1, by show x.1 ≤ _; omega, h3, h4⟩

theorem fits_ok {l : List Int} {i : Int} {x : P3} (h0 : 0 ≤ i) (h1 : i < (l.length : Int)) (h : fits l i x) :
    0 ≤ x.2.2 ∧ i + max x.2.2 1 ≤ (l.length : Int) ∧ (x.2.2 = 0 → x = (l.getD i.toNat 0, 0, 0)) ∧
    (¬ x.2.2 = 0 → x.1 = 0 ∧ 1 ≤ x.2.1 ∧ x.2.1 ≤ min 16 i ∧ 2 ≤ x.2.2 ∧ x.2.2 ≤ 9 ∧ x.2.2 ≤ mlong l i x.2.1) ∧ (x.2.1 = 0 ↔ x.2.2 = 0) := by
  rcases h with h | ⟨q1, q2, q3, q4, q5⟩
  · subst h
    refine ⟨Int.le_refl _, ?_, fun _ => rfl, fun q => absurd rfl q, by simp⟩
    show i + max 0 1 ≤ _
    omega
  · have := mlong_le l (k := x.2.1) h0 (by omega)
    exact ⟨by omega, by omega, fun q => by omega, fun _ => ⟨q1, q2, q3, q4, by omega, q5⟩, by omega⟩

theorem putTok_fits {L : List Int} (hv : LV L = true) {a : Int} {x : P3} (h0 : 0 ≤ a) (h1 : a < (L.length : Int)) (hx : fits L a x) : putTok x (L.take a.toNat) = some (L.take (a + max x.2.2 1).toNat) := by
  obtain ⟨q1, q2, q3, q4, q5⟩ := fits_ok h0 h1 hx
  have ht := len_take (l := L) h0 (by omega)
  by_cases hz : x.2.2 = 0
  · rw [q3 hz]
    have hg := LV_at hv h0 h1
    have e : (a + max (L.getD a.toNat 0, (0 : Int), (0 : Int)).2.2 1).toNat = (a + 1).toNat := by
      have : max (0 : Int) 1 = 1 := by omega
      simp [this]
    rw [e, take_lt 0 h0 h1]
    exact if_pos ⟨rfl, rfl, hg⟩
  · obtain ⟨p1, p2, p3, p4, p5, p6⟩ := q4 hz
    unfold putTok
    rw [if_neg (by omega), if_pos (by omega)]
    have := copyBack_run (L := L) p2 x.2.2.toNat 9 a (by omega) (by unfold mlong at p6; omega)
    rw [this]
    congr 2; omega

theorem parse_end {l : List Int} {n : Nat} {i : Int} (h : ¬ i < (l.length : Int)) : parseN l n i = [] := by
  cases n with
  | zero => rfl
  | succ n => rw [parseN, if_neg h]

/-- The token that is taken at a place. -/
def takenAt (l : List Int) (i : Int) : P3 := bestTok l i ((costsN l l.length).drop (i + 1).toNat)

theorem parse_step {l : List Int} {n : Nat} {i : Int} (h : i < (l.length : Int)) : parseN l (n + 1) i = takenAt l i :: parseN l n (i + max (takenAt l i).2.2 1) := by rw [parseN, if_pos h]; rfl

theorem taken_fits (l : List Int) {i : Int} (h0 : 0 ≤ i) : fits l i (takenAt l i) := bestTok_fits l _ h0

theorem taken_ok (l : List Int) {i : Int} (h0 : 0 ≤ i) (h1 : i < (l.length : Int)) :
    0 ≤ (takenAt l i).2.2 ∧ i + max (takenAt l i).2.2 1 ≤ (l.length : Int) ∧ ((takenAt l i).2.2 = 0 → takenAt l i = (l.getD i.toNat 0, 0, 0)) ∧
    (¬ (takenAt l i).2.2 = 0 → (takenAt l i).1 = 0 ∧ 1 ≤ (takenAt l i).2.1 ∧ (takenAt l i).2.1 ≤ min 16 i ∧ 2 ≤ (takenAt l i).2.2 ∧ (takenAt l i).2.2 ≤ 9 ∧ (takenAt l i).2.2 ≤ mlong l i (takenAt l i).2.1) ∧ ((takenAt l i).2.1 = 0 ↔ (takenAt l i).2.2 = 0) := fits_ok h0 h1 (taken_fits l h0)

theorem parse_len (l : List Int) : ∀ (n : Nat) (i : Int), 0 ≤ i → i ≤ (l.length : Int) → ((parseN l n i).length : Int) ≤ (l.length : Int) - i
  | 0, i, h0, h1 => by simp [parseN]; omega
  | n + 1, i, h0, h1 => by
    by_cases hl : i < (l.length : Int)
    · rw [parse_step hl]
      obtain ⟨q1, q2, _⟩ := taken_ok l h0 hl
      have := parse_len l n (i + max (takenAt l i).2.2 1) (by omega) q2
      simp only [List.length_cons]
      omega
    · rw [parse_end hl]; simp; omega

/-- The best tokens lead back to the list. -/
theorem parse_back {L : List Int} (hv : LV L = true) : ∀ (n : Nat) (a : Int), 0 ≤ a → a ≤ (L.length : Int) → (L.length : Int) - a ≤ n → expandFrom (parseN L n a) (L.take a.toNat) = some L
  | 0, a, h0, h1, h => by rw [parseN, expandFrom, take_ge (by omega)]
  | n + 1, a, h0, h1, h => by
    by_cases hl : a < (L.length : Int)
    · rw [parse_step hl, expandFrom, putTok_fits hv h0 hl (taken_fits L h0)]
      obtain ⟨q1, q2, _⟩ := taken_ok L h0 hl
      have hlen := LV_len hv
      have ht := len_take (l := L) (i := a + max (takenAt L a).2.2 1) (by omega) q2
      have h40 : ¬ 40 < (L.take (a + max (takenAt L a).2.2 1).toNat).length := by omega
      have e := parse_back hv n (a + max (takenAt L a).2.2 1) (by omega) q2 (by omega)
      simp only [if_neg h40]
      exact e
    · rw [parse_end hl, expandFrom, take_ge hl]

theorem parseD_back {l : List Int} (hv : LV l = true) : expand (parseD l) = some l := by
  have := parse_back hv l.length 0 (by omega) (by omega) (by omega)
  unfold parseD expand
  rw [if_pos hv]
  simpa using this

/-- A token as it can be told by a byte. -/
def tokFine (x : P3) : Prop := (x.2.1 = 0 ∧ x.2.2 = 0 ∧ 0 ≤ x.1 ∧ x.1 ≤ 7) ∨ (x.1 = 0 ∧ 1 ≤ x.2.1 ∧ x.2.1 ≤ 16 ∧ 2 ≤ x.2.2 ∧ x.2.2 ≤ 9)

theorem parse_fine {l : List Int} (hv : LV l = true) : ∀ (n : Nat) (i : Int), 0 ≤ i → ∀ x ∈ parseN l n i, tokFine x
  | 0, i, h0, x, hx => by cases hx
  | n + 1, i, h0, x, hx => by
    by_cases hl : i < (l.length : Int)
    · rw [parse_step hl] at hx
      obtain ⟨q1, q2, q3, q4, q5⟩ := taken_ok l h0 hl
      rcases List.mem_cons.1 hx with r | r
      · rw [← r] at q1 q2 q3 q4 q5
        by_cases hz : x.2.2 = 0
        · have hg := LV_at hv h0 hl
          have e := q3 hz
          refine .inl ⟨q5.2 hz, hz, ?_⟩
          rw [e]; exact hg
        · obtain ⟨p1, p2, p3, p4, p5, p6⟩ := q4 hz
          exact .inr ⟨p1, p2, by omega, p4, p5⟩
      · exact parse_fine hv n _ (by omega) x r
    · rw [parse_end hl] at hx; cases hx

theorem parseD_fine (l : List Int) : ∀ x ∈ parseD l, tokFine x := by
  unfold parseD
  split
  · rename_i h; exact parse_fine h _ 0 (by omega)
  · intro x hx; cases hx

theorem parseD_len (l : List Int) : ((parseD l).length : Int) ≤ (l.length : Int) ∧ ((parseD l).length : Int) ≤ 40 := by
  unfold parseD
  split
  · rename_i h
    have := parse_len l l.length 0 (by omega) (by omega)
    have := LV_len h
    omega
  · simp

/-- A token as a byte, and back. -/
def tokByte (x : P3) : Int := if x.2.2 = 0 then x.1 else 128 + 16 * (x.2.2 - 2) + x.2.1 - 1

def byteTok (n : Int) : P3 := if n < 128 then (n, 0, 0) else (0, n % 16 + 1, (n - 128) / 16 + 2)

theorem tok_byte {x : P3} (h : tokFine x) : byteTok (tokByte x) = x ∧ 0 ≤ tokByte x ∧ tokByte x ≤ 255 := by
  obtain ⟨s, b, m⟩ := x
  rcases h with ⟨h1, h2, h3, h4⟩ | ⟨h1, h2, h3, h4, h5⟩
  · simp only at h1 h2 h3 h4
    subst h1 h2
    unfold tokByte byteTok
    simp only [if_pos]
    rw [if_pos (by omega)]
    exact ⟨rfl, by omega, by omega⟩
  · simp only at h1 h2 h3 h4 h5
    subst h1
    unfold tokByte byteTok
    simp only [if_neg (show ¬ m = 0 by omega), if_neg (show ¬ 128 + 16 * (m - 2) + b - 1 < 128 by omega)]
    refine ⟨?_, by omega, by omega⟩
    rw [show (128 + 16 * (m - 2) + b - 1) % 16 + 1 = b by omega, show (128 + 16 * (m - 2) + b - 1 - 128) / 16 + 2 = m by omega]

theorem toks_bytes : ∀ {xs : List P3}, (∀ x ∈ xs, tokFine x) → (xs.map tokByte).map byteTok = xs ∧ allIn 0 255 (xs.map tokByte) = true
  | [], _ => ⟨rfl, rfl⟩
  | x :: xs, h => by
    obtain ⟨h1, h2⟩ := toks_bytes (xs := xs) (fun y hy => h y (List.mem_cons_of_mem _ hy))
    obtain ⟨q1, q2, q3⟩ := tok_byte (h x (List.mem_cons_self ..))
    simp only [List.map_cons, q1, h1, allIn, h2]
    exact ⟨trivial, by simp [q2, q3]⟩

theorem costs_at (l : List Int) {i : Int} (h0 : 0 ≤ i) (h1 : i < (l.length : Int)) : (costsN l l.length).drop i.toNat = headC l i ((costsN l l.length).drop (i + 1).toNat) :: (costsN l l.length).drop (i + 1).toNat ∧ (costsN l l.length).drop (i + 1).toNat = costsN l (l.length - (i + 1).toNat) := by
  have e1 := costs_drop l l.length (l.length - (i + 1).toNat) (by omega)
  have e2 := costs_drop l l.length (l.length - (i + 1).toNat + 1) (by omega)
  rw [show l.length - (l.length - (i + 1).toNat) = (i + 1).toNat by omega] at e1
  rw [show l.length - (l.length - (i + 1).toNat + 1) = i.toNat by omega, costsN] at e2
  rw [e1, e2]
  refine ⟨?_, rfl⟩
  congr 2; omega

theorem costs_get (l : List Int) {i : Int} (h0 : 0 ≤ i) (h1 : i < (l.length : Int)) : (costsN l l.length).getD i.toNat 0 = headC l i ((costsN l l.length).drop (i + 1).toNat) ∧ ∀ k : Int, 1 ≤ k → (costsN l l.length).getD (i + k).toNat 0 = ((costsN l l.length).drop (i + 1).toNat).getD (k - 1).toNat 0 := by
  have e := (costs_at l h0 h1).1
  have hl := costsN_len l l.length
  rw [drop_lt 0 h0 (by omega)] at e
  injection e with e1 e2
  refine ⟨e1, fun k hk => ?_⟩
  simp only [List.getD_eq_getElem?_getD, List.getElem?_drop]
  congr 2; omega

theorem costs_nn (l : List Int) (hl : l.length ≤ 40) (k : Nat) : 0 ≤ (costsN l l.length).getD k 0 ∧ (costsN l l.length).getD k 0 ≤ 160 := by
  by_cases h : k < (costsN l l.length).length
  · have := costsN_bd l l.length _ (show (costsN l l.length).getD k 0 ∈ costsN l l.length by simp [List.getD_eq_getElem?_getD, h]); omega
  · simp [List.getD_eq_getElem?_getD, List.getElem?_eq_none (show (costsN l l.length).length ≤ k by omega)]

theorem toksN_len (l : List Int) : ∀ n, (toksN l n).length = n
  | 0 => rfl
  | n + 1 => by simp [toksN, toksN_len l n]

theorem toks_drop (l : List Int) : ∀ (n m : Nat), m ≤ n → (toksN l n).drop (n - m) = toksN l m
  | 0, 0, _ => rfl
  | n + 1, m, h => by
    by_cases e : m = n + 1
    · subst e; simp
    · rw [show n + 1 - m = (n - m) + 1 by omega, toksN, List.drop_succ_cons]
      exact toks_drop l n m (by omega)
  | 0, m + 1, h => by omega

theorem toks_get (l : List Int) {i : Int} (h0 : 0 ≤ i) (h1 : i < (l.length : Int)) : (toksN l l.length).getD i.toNat (0, 0, 0) = takenAt l i := by
  have e2 := toks_drop l l.length (l.length - (i + 1).toNat + 1) (by omega)
  rw [show l.length - (l.length - (i + 1).toNat + 1) = i.toNat by omega, toksN, drop_lt (0, 0, 0) h0 (by rw [toksN_len]; omega)] at e2
  injection e2 with e3 e4
  rw [e3]
  unfold takenAt
  rw [(costs_at l h0 h1).2]
  congr 1; omega

theorem first_least {l : List Int} {i : Int} {c : List Int} {m : Int} {b : P3} (hk : keepC c (cands l i) (4 + c.getD 0 0, (l.getD i.toNat 0, 0, 0)) = (m, b)) : m = headC l i c ∧ b = bestTok l i c := by
  obtain ⟨h1, h2⟩ := keepC_least c (cands l i) (4 + c.getD 0 0) (l.getD i.toNat 0, 0, 0)
  rw [hk] at h1 h2
  exact ⟨h1, h2⟩

end Go.Mx

/-
  M19: codes are read back.
-/
namespace Go.Mx

theorem fold_num : ∀ (b : List Int) (n : Int), b.foldl (fun n b => 2 * n + b) n = n * 2 ^ b.length + numOf b
  | [], n => by simp [numOf]
  | x :: b, n => by
    have h1 := fold_num b (2 * n + x)
    have h2 := fold_num b (2 * 0 + x)
    have e : numOf (x :: b) = b.foldl (fun n b => 2 * n + b) (2 * 0 + x) := rfl
    rw [List.foldl_cons, h1, e, h2, List.length_cons, Int.pow_succ]
    generalize (2 : Int) ^ b.length = p
    grind

theorem numOf_append (a b : List Int) : numOf (a ++ b) = numOf a * 2 ^ b.length + numOf b := by
  unfold numOf; rw [List.foldl_append, fold_num b]; rfl

theorem num_bits : ∀ (k : Nat) (n : Int), 0 ≤ n → n < 2 ^ k → numOf (bitsOf k n) = n
  | 0, n, h0, h1 => by simp at h1; simp [bitsOf, numOf]; omega
  | k + 1, n, h0, h1 => by
    rw [Int.pow_succ] at h1
    rw [bitsOf, numOf_snoc, num_bits k (n / 2) (by omega) (by omega)]
    omega

theorem bits_num : ∀ (k : Nat) (x : List Int), x.length = k → allIn 0 1 x = true → bitsOf k (numOf x) = x
  | 0, x, h, _ => by rw [List.eq_nil_of_length_eq_zero h]; rfl
  | k + 1, x, h, hx => by
    rcases List.eq_nil_or_concat x with q | ⟨L, b, q⟩
    · subst q; simp at h
    · rw [List.concat_eq_append] at q
      subst q
      have hL : L.length = k := by simp at h; exact h
      have hb := allIn_iff.1 hx b (by simp)
      have hLx : allIn 0 1 L = true := allIn_iff.2 fun y hy => allIn_iff.1 hx y (List.mem_append_left _ hy)
      rw [numOf_snoc, bitsOf, show (2 * numOf L + b) / 2 = numOf L by omega, show (2 * numOf L + b) % 2 = b by omega, bits_num k L hL hLx]

theorem allIn_take {a b : Int} {x : List Int} (n : Nat) (h : allIn a b x = true) : allIn a b (x.take n) = true := allIn_iff.2 fun y hy => allIn_iff.1 h y (List.mem_of_mem_take hy)
theorem allIn_drop {a b : Int} {x : List Int} (n : Nat) (h : allIn a b x = true) : allIn a b (x.drop n) = true := allIn_iff.2 fun y hy => allIn_iff.1 h y (List.mem_of_mem_drop hy)
theorem allIn_append {a b : Int} {x y : List Int} : allIn a b (x ++ y) = true ↔ allIn a b x = true ∧ allIn a b y = true := by
  simp only [allIn_iff, List.mem_append]
  exact ⟨fun h => ⟨fun n hn => h n (.inl hn), fun n hn => h n (.inr hn)⟩, fun h n hn => hn.elim (h.1 n) (h.2 n)⟩

theorem num_take {x : List Int} (hx : allIn 0 1 x = true) {a b : Nat} (h : a + b ≤ x.length) : numOf (x.take (a + b)) / 2 ^ b = numOf (x.take a) := by
  have hl : ((x.drop a).take b).length = b := by simp; omega
  rw [List.take_add, numOf_append, hl]
  obtain ⟨q0, q1⟩ := numOf_bd (l := (x.drop a).take b) (allIn_take b (allIn_drop a hx))
  rw [hl] at q1
  have hp : (0 : Int) < 2 ^ b := Int.pow_pos (by omega)
  rw [Int.add_comm, Int.add_mul_ediv_right _ _ (by omega), Int.ediv_eq_zero_of_lt q0 (by omega), Int.zero_add]

theorem below_mono {w w' i i' : Int} (h : w < w' ∨ (w = w' ∧ i ≤ i')) : ∀ (ls : List Int) (s : Int), below s ls w i ≤ below s ls w' i'
  | [], s => by simp [below]
  | l :: ls, s => by
    have ih := below_mono h ls (s + 1)
    have hp := p2_pos (8 - l)
    simp only [below]
    by_cases q : 0 < l ∧ (l < w ∨ (l = w ∧ s < i))
    · rw [if_pos q, if_pos (show 0 < l ∧ (l < w' ∨ (l = w' ∧ s < i')) by omega)]; omega
    · rw [if_neg q]; split <;> omega

/-- A code's share begins behind the shares of those before. -/
theorem code_before {ls : List Int} (h : lensOk ls = true) {s t : Nat} (hs : s < 8) (ht : t < 8) (ps : 0 < ls.getD s 0) (pt : 0 < ls.getD t 0) (hb : ls.getD s 0 < ls.getD t 0 ∨ (ls.getD s 0 = ls.getD t 0 ∧ s < t)) :
    (code ls s + 1) * p2 (8 - ls.getD s 0) ≤ code ls t * p2 (8 - ls.getD t 0) := by
  have h8 : ls.length = 8 := by
    simp only [lensOk, Bool.and_eq_true] at h
    exact (lensIn_iff.1 h.1).1
  obtain ⟨c1, c2, c3, c4⟩ := code_ok h hs ps
  obtain ⟨d1, d2, d3, d4⟩ := code_ok h ht pt
  have hr := below_row (w := ls.getD s 0) ps ls 0 s (by omega) (by omega)
  rw [Int.sub_zero, show ((s : Int)).toNat = s by omega, if_pos rfl] at hr
  have hm := below_mono (w := ls.getD s 0) (w' := ls.getD t 0) (i := (s : Int) + 1) (i' := t) (by omega) ls 0
  rw [Int.add_mul, Int.one_mul]
  omega

/-- Of two codes, one is not the beginning of the other. -/
theorem codes_apart {ls : List Int} (h : lensOk ls = true) {x : List Int} (hx : allIn 0 1 x = true) {s t : Nat} (hs : s < 8) (ht : t < 8) (ps : 0 < ls.getD s 0) (pt : 0 < ls.getD t 0) (hle : ls.getD s 0 ≤ ls.getD t 0) (hl : ls.getD t 0 ≤ (x.length : Int))
    (e1 : numOf (x.take (ls.getD s 0).toNat) = code ls s) (e2 : numOf (x.take (ls.getD t 0).toNat) = code ls t) : s = t := by
  obtain ⟨c1, c2, c3, c4⟩ := code_ok h hs ps
  obtain ⟨d1, d2, d3, d4⟩ := code_ok h ht pt
  have hn := num_take hx (a := (ls.getD s 0).toNat) (b := (ls.getD t 0 - ls.getD s 0).toNat) (by omega)
  rw [show (ls.getD s 0).toNat + (ls.getD t 0 - ls.getD s 0).toNat = (ls.getD t 0).toNat by omega, e1, e2] at hn
  have hq : p2 (ls.getD t 0 - ls.getD s 0) * p2 (8 - ls.getD t 0) = p2 (8 - ls.getD s 0) := by
    rw [← p2_add (by omega) (by omega)]; congr 1; omega
  have e3 : (2 : Int) ^ (ls.getD t 0 - ls.getD s 0).toNat = p2 (ls.getD t 0 - ls.getD s 0) := rfl
  rw [e3] at hn
  have hp := p2_pos (ls.getD t 0 - ls.getD s 0)
  have hp2 := p2_pos (8 - ls.getD t 0)
  have hp3 := p2_pos (8 - ls.getD s 0)
  have h1 : code ls s * p2 (ls.getD t 0 - ls.getD s 0) ≤ code ls t := by rw [← hn]; exact Int.ediv_mul_le _ (by omega)
  have h2 : code ls t + 1 ≤ (code ls s + 1) * p2 (ls.getD t 0 - ls.getD s 0) := by rw [← hn]; exact Int.lt_ediv_add_one_mul_self _ hp
  have h3 := Int.mul_le_mul_of_nonneg_right h1 (show 0 ≤ p2 (8 - ls.getD t 0) by omega)
  have h4 := Int.mul_le_mul_of_nonneg_right h2 (show 0 ≤ p2 (8 - ls.getD t 0) by omega)
  rw [Int.mul_assoc, hq] at h3
  rw [Int.mul_assoc, hq, Int.add_mul, Int.one_mul] at h4
  by_cases hb : ls.getD s 0 < ls.getD t 0 ∨ (ls.getD s 0 = ls.getD t 0 ∧ s < t)
  · have := code_before h hs ht ps pt hb
    omega
  · by_cases hst : s = t
    · exact hst
    · have := code_before h ht hs pt ps (by omega)
      rw [Int.add_mul, Int.one_mul] at this
      omega

/-- The code of a symbol is at a place. -/
def hits (ls bits : List Int) (at_ : Int) (s : Nat) : Bool := decide (0 < ls.getD s 0) && decide (at_ + ls.getD s 0 ≤ (bits.length : Int)) && decide (numOf ((bits.drop at_.toNat).take (ls.getD s 0).toNat) = code ls s)

def symFrom (ls bits : List Int) (at_ : Int) : Nat → Int → Int
  | 0, _ => -1
  | n + 1, s => if hits ls bits at_ s.toNat = true then s else symFrom ls bits at_ n (s + 1)

/-- The symbol whose code is at a place, or -1. -/
def symAt (ls bits : List Int) (at_ : Int) : Int := symFrom ls bits at_ 8 0

theorem hits_iff {ls bits : List Int} {at_ : Int} {s : Nat} : hits ls bits at_ s = true ↔ 0 < ls.getD s 0 ∧ at_ + ls.getD s 0 ≤ (bits.length : Int) ∧ numOf ((bits.drop at_.toNat).take (ls.getD s 0).toNat) = code ls s := by
  simp [hits, and_assoc]

theorem symFrom_cases (ls bits : List Int) (at_ : Int) : ∀ (n : Nat) (k : Int), 0 ≤ k → (symFrom ls bits at_ n k = -1 ∧ ∀ s : Nat, k ≤ s → (s : Int) < k + n → hits ls bits at_ s = false) ∨ (k ≤ symFrom ls bits at_ n k ∧ symFrom ls bits at_ n k < k + n ∧ hits ls bits at_ (symFrom ls bits at_ n k).toNat = true)
  | 0, k, h0 => .inl ⟨rfl, fun s h1 h2 => by omega⟩
  | n + 1, k, h0 => by
    rw [symFrom]
    by_cases q : hits ls bits at_ k.toNat = true
    · rw [if_pos q]; exact .inr ⟨by omega, by omega, q⟩
    · rw [if_neg q]
      rcases symFrom_cases ls bits at_ n (k + 1) (by omega) with ⟨h1, h2⟩ | ⟨h1, h2, h3⟩
      · refine .inl ⟨h1, fun s q1 q2 => ?_⟩
        by_cases e : (s : Int) = k
        · have : k.toNat = s := by omega
          rw [← this]; exact Bool.eq_false_iff.2 q
        · exact h2 s (by omega) (by omega)
      · exact .inr ⟨by omega, by omega, h3⟩

theorem symAt_cases (ls bits : List Int) (at_ : Int) : (symAt ls bits at_ = -1 ∧ ∀ s : Nat, s < 8 → hits ls bits at_ s = false) ∨ (0 ≤ symAt ls bits at_ ∧ symAt ls bits at_ ≤ 7 ∧ hits ls bits at_ (symAt ls bits at_).toNat = true) := by
  rcases symFrom_cases ls bits at_ 8 0 (by omega) with ⟨h1, h2⟩ | ⟨h1, h2, h3⟩
  · exact .inl ⟨h1, fun s hs => h2 s (by omega) (by omega)⟩
  · exact .inr ⟨h1, by unfold symAt; omega, h3⟩

theorem hits_unique {ls : List Int} (h : lensOk ls = true) {bits : List Int} (hx : allIn 0 1 bits = true) {at_ : Int} (h0 : 0 ≤ at_) {s t : Nat} (hs : s < 8) (ht : t < 8) (p : hits ls bits at_ s = true) (q : hits ls bits at_ t = true) : s = t := by
  obtain ⟨p1, p2, p3⟩ := hits_iff.1 p
  obtain ⟨q1, q2, q3⟩ := hits_iff.1 q
  have hl : ((bits.drop at_.toNat).length : Int) = bits.length - at_ := by simp; omega
  by_cases hle : ls.getD s 0 ≤ ls.getD t 0
  · exact codes_apart h (allIn_drop _ hx) hs ht p1 q1 hle (by omega) p3 q3
  · exact (codes_apart h (allIn_drop _ hx) ht hs q1 p1 (by omega) (by omega) q3 p3).symm

theorem sym_of_hit {ls : List Int} (h : lensOk ls = true) {bits : List Int} (hx : allIn 0 1 bits = true) {at_ : Int} (h0 : 0 ≤ at_) {s : Nat} (hs : s < 8) (p : hits ls bits at_ s = true) : symAt ls bits at_ = s := by
  rcases symAt_cases ls bits at_ with ⟨h1, h2⟩ | ⟨h1, h2, h3⟩
  · rw [h2 s hs] at p; cases p
  · have := hits_unique h hx h0 hs (by omega) p h3
    omega

/-- The code of a symbol is found where it was put. -/
theorem sym_code {ls : List Int} (h : lensOk ls = true) {s : Nat} (hs : s < 8) (hp : 0 < ls.getD s 0) {pre post : List Int} (hpre : allIn 0 1 pre = true) (hpost : allIn 0 1 post = true) :
    symAt ls (pre ++ (bitsOf (ls.getD s 0).toNat (code ls s) ++ post)) pre.length = s := by
  obtain ⟨c1, c2, c3, c4⟩ := code_ok h hs hp
  have hb := bitsOf_in (ls.getD s 0).toNat (code ls s) c1
  refine sym_of_hit h (allIn_append.2 ⟨hpre, allIn_append.2 ⟨hb, hpost⟩⟩) (by omega) hs (hits_iff.2 ⟨hp, ?_, ?_⟩)
  · simp only [List.length_append, bitsOf_len]; omega
  · rw [show ((pre.length : Int)).toNat = pre.length by omega, List.drop_left, List.take_append_of_le_length (by rw [bitsOf_len]; omega), List.take_of_length_le (by rw [bitsOf_len]; omega)]
    exact num_bits _ _ c1 (by have : (2 : Int) ^ (ls.getD s 0).toNat = p2 (ls.getD s 0) := rfl; omega)

/-- What is found is found also with more bits behind. -/
theorem sym_more {ls : List Int} (h : lensOk ls = true) {bits more : List Int} (hx : allIn 0 1 (bits ++ more) = true) {at_ : Int} (h0 : 0 ≤ at_) (hs : 0 ≤ symAt ls bits at_) : symAt ls (bits ++ more) at_ = symAt ls bits at_ := by
  rcases symAt_cases ls bits at_ with ⟨h1, h2⟩ | ⟨h1, h2, h3⟩
  · omega
  · obtain ⟨p1, p2, p3⟩ := hits_iff.1 h3
    have := sym_of_hit h hx h0 (s := (symAt ls bits at_).toNat) (by omega) (hits_iff.2 ⟨p1, by rw [List.length_append]; omega, by
      rw [List.drop_append_of_le_length (by omega), List.take_append_of_le_length (by rw [List.length_drop]; omega)]; exact p3⟩)
    omega

/-- What is not found in enough bits is not found with more behind. -/
theorem sym_none {ls : List Int} (h : lensOk ls = true) {bits more : List Int} {at_ : Int} (h0 : 0 ≤ at_) (hl : at_ + 8 ≤ (bits.length : Int)) (hs : symAt ls bits at_ < 0) : symAt ls (bits ++ more) at_ < 0 := by
  rcases symAt_cases ls (bits ++ more) at_ with ⟨h1, h2⟩ | ⟨h1, h2, h3⟩
  · omega
  · obtain ⟨p1, p2, p3⟩ := hits_iff.1 h3
    have h4 := (code_ok h (s := (symAt ls (bits ++ more) at_).toNat) (by omega) p1).2.2.2
    rw [List.drop_append_of_le_length (by omega), List.take_append_of_le_length (by rw [List.length_drop]; omega)] at p3
    have h5 : hits ls bits at_ (symAt ls (bits ++ more) at_).toNat = true := hits_iff.2 ⟨p1, by omega, p3⟩
    rcases symAt_cases ls bits at_ with ⟨q1, q2⟩ | ⟨q1, _⟩
    · rw [q2 _ (by omega)] at h5; cases h5
    · omega

/-- Symbols from a place on, and the place behind them. -/
def decN (ls bits : List Int) : Nat → Int → Option (List Int × Int)
  | 0, a => some ([], a)
  | n + 1, a => if symAt ls bits a < 0 then none else (decN ls bits n (a + ls.getD (symAt ls bits a).toNat 0)).map fun r => (symAt ls bits a :: r.1, r.2)

def decD (bits ls : List Int) (many : Int) : Option (List Int × Int) := if (bitsIn bits && lensOk ls && decide (0 ≤ many ∧ many ≤ 40)) = true then decN ls bits many.toNat 0 else none

theorem dec_enc {ls : List Int} (h : lensOk ls = true) : ∀ {l pre post : List Int}, (∀ s ∈ l, 0 ≤ s ∧ s ≤ 7) → encOk ls l = true → allIn 0 1 pre = true → allIn 0 1 post = true → decN ls (pre ++ (enc ls l ++ post)) l.length pre.length = some (l, ((pre.length + (enc ls l).length : Nat) : Int))
  | [], pre, post, _, _, _, _ => by simp [decN, enc]
  | s :: l, pre, post, hs, hk, hpre, hpost => by
    simp only [encOk, List.all_cons, Bool.and_eq_true, decide_eq_true_eq] at hk
    have hs0 := hs s (List.mem_cons_self ..)
    have hl := fun x hx => hs x (List.mem_cons_of_mem _ hx)
    have hk2 : encOk ls l = true := hk.2
    obtain ⟨c1, c2, c3, c4⟩ := code_ok h (s := s.toNat) (by omega) hk.1
    have hbits := bitsOf_in (ls.getD s.toNat 0).toNat (code ls s.toNat) c1
    have henc := (enc_bd h hl hk2).2
    have hsym := sym_code h (s := s.toNat) (by omega) hk.1 hpre (post := enc ls l ++ post) (allIn_append.2 ⟨henc, hpost⟩)
    have ih := dec_enc h (l := l) (pre := pre ++ bitsOf (ls.getD s.toNat 0).toNat (code ls s.toNat)) (post := post) hl hk2 (allIn_append.2 ⟨hpre, hbits⟩) hpost
    simp only [enc, List.append_assoc, List.length_cons, decN] at ih ⊢
    rw [hsym, if_neg (by omega), show ((s.toNat : Nat) : Int).toNat = s.toNat by omega]
    have hlen : ((pre ++ bitsOf (ls.getD s.toNat 0).toNat (code ls s.toNat)).length : Int) = (pre.length : Int) + ls.getD s.toNat 0 := by
      rw [List.length_append, bitsOf_len]; omega
    rw [hlen] at ih
    rw [ih]
    simp only [Option.map_some, List.length_append, bitsOf_len]
    rw [show ((s.toNat : Nat) : Int) = s by omega]
    congr 2
    omega

/-- What has been read is read also with more bits behind. -/
theorem dec_more {ls : List Int} (h : lensOk ls = true) {bits more : List Int} (hx : allIn 0 1 (bits ++ more) = true) : ∀ (n : Nat) (a : Int) (r : List Int × Int), 0 ≤ a → decN ls bits n a = some r → decN ls (bits ++ more) n a = some r
  | 0, a, r, h0, hr => hr
  | n + 1, a, r, h0, hr => by
    rw [decN] at hr ⊢
    by_cases q : symAt ls bits a < 0
    · rw [if_pos q] at hr; cases hr
    · rw [if_neg q] at hr
      rw [sym_more h hx h0 (by omega), if_neg q]
      rcases symAt_cases ls bits a with ⟨h1, h2⟩ | ⟨h1, h2, h3⟩
      · omega
      · have hp := (hits_iff.1 h3).1
        cases hd : decN ls bits n (a + ls.getD (symAt ls bits a).toNat 0) with
        | none => rw [hd] at hr; cases hr
        | some r' =>
          rw [hd] at hr
          rw [dec_more h hx n _ r' (by omega) hd]
          exact hr

/-- Bytes as bits. -/
def bitsB (b : List Int) : List Int := b.flatMap (bitsOf 8)

theorem bitsB_len (b : List Int) : (bitsB b).length = 8 * b.length := by
  induction b with
  | nil => rfl
  | cons x b ih => simp only [bitsB, List.flatMap_cons, List.length_append, bitsOf_len, List.length_cons] at ih ⊢; omega

theorem bitsB_append (a b : List Int) : bitsB (a ++ b) = bitsB a ++ bitsB b := by simp [bitsB]

theorem bitsB_in {b : List Int} (h : allIn 0 255 b = true) : allIn 0 1 (bitsB b) = true := by
  refine allIn_iff.2 fun x hx => ?_
  obtain ⟨y, hy, hxy⟩ := List.mem_flatMap.1 hx
  exact allIn_iff.1 (bitsOf_in 8 y (allIn_iff.1 h y hy).1) x hxy

theorem bytesOf_cons {x : List Int} (h : x ≠ []) : bytesOf x = numOf (pad8 (x.take 8)) :: bytesOf (x.drop 8) := by
  have hp : 0 < x.length := List.length_pos_iff.2 h
  unfold bytesOf
  have e : (x.length + 7) / 8 = ((x.drop 8).length + 7) / 8 + 1 := by simp; omega
  rw [e, List.range_succ_eq_map, List.map_cons, List.map_map]
  congr 1
  refine List.map_congr_left fun j _ => ?_
  simp only [Function.comp, byteAt, List.drop_drop]
  rw [show 8 * (j + 1) = 8 + 8 * j by omega]

theorem pad8_in {x : List Int} (h : allIn 0 1 x = true) : allIn 0 1 (pad8 x) = true := by
  refine allIn_append.2 ⟨h, allIn_iff.2 fun y hy => ?_⟩
  have := List.eq_of_mem_replicate hy
  omega

theorem bits_bytes : ∀ (n : Nat) (x : List Int), x.length ≤ n → allIn 0 1 x = true → (∃ z, bitsB (bytesOf x) = x ++ z ∧ allIn 0 1 z = true) ∧ allIn 0 255 (bytesOf x) = true
  | 0, x, h, _ => by
    rw [List.eq_nil_of_length_eq_zero (by omega : x.length = 0)]
    exact ⟨⟨[], rfl, rfl⟩, rfl⟩
  | n + 1, x, h, hx => by
    by_cases q : x = []
    · subst q; exact ⟨⟨[], rfl, rfl⟩, rfl⟩
    · rw [bytesOf_cons q]
      obtain ⟨⟨z, h1, h2⟩, h3⟩ := bits_bytes n (x.drop 8) (by have := List.length_pos_iff.2 q; simp; omega) (allIn_drop 8 hx)
      have hin := pad8_in (allIn_take 8 hx)
      have hl : (pad8 (x.take 8)).length = 8 := by unfold pad8; simp; omega
      have hb := numOf_bd hin
      rw [hl] at hb
      have e : bitsB (numOf (pad8 (x.take 8)) :: bytesOf (x.drop 8)) = pad8 (x.take 8) ++ (x.drop 8 ++ z) := by
        rw [← h1]
        show bitsOf 8 _ ++ bitsB _ = _
        rw [bits_num 8 _ hl hin]
      refine ⟨?_, ?_⟩
      · rw [e]
        by_cases h8 : 8 ≤ x.length
        · have : pad8 (x.take 8) = x.take 8 := by unfold pad8; rw [show 8 - (x.take 8).length = 0 by simp; omega]; simp
          exact ⟨z, by rw [this, ← List.append_assoc, List.take_append_drop], h2⟩
        · have e1 : x.take 8 = x := List.take_of_length_le (by omega)
          have e2 : x.drop 8 = [] := List.drop_eq_nil_of_le (by omega)
          rw [e1, e2, List.nil_append]
          refine ⟨List.replicate (8 - x.length) 0 ++ z, by unfold pad8; rw [List.append_assoc], allIn_append.2 ⟨?_, h2⟩⟩
          exact allIn_iff.2 fun y hy => by have := List.eq_of_mem_replicate hy; omega
      · simp only [allIn, h3, Bool.and_true, decide_eq_true_eq]
        omega

end Go.Mx

/-
  M20: the lengths of codes are valid.
-/
namespace Go.Mx

def sumF (f : Int → Int) : List Int → Int
  | [] => 0
  | x :: xs => f x + sumF f xs

theorem sumF_append (f : Int → Int) : ∀ (a b : List Int), sumF f (a ++ b) = sumF f a + sumF f b
  | [], b => by simp [sumF]
  | x :: a, b => by simp only [List.cons_append, sumF, sumF_append f a b]; omega

theorem sumF_perm {f : Int → Int} {a b : List Int} (h : a.Perm b) : sumF f a = sumF f b := by
  induction h with
  | nil => rfl
  | cons x _ ih => simp only [sumF, ih]
  | swap x y l => simp only [sumF]; omega
  | trans _ _ h1 h2 => exact h1.trans h2

theorem sumF_congr {f g : Int → Int} : ∀ {l : List Int}, (∀ s ∈ l, f s = g s) → sumF f l = sumF g l
  | [], _ => rfl
  | x :: l, h => by
    simp only [sumF]
    rw [h x (List.mem_cons_self ..), sumF_congr (l := l) (fun s hs => h s (List.mem_cons_of_mem _ hs))]

theorem sumF_half {f g : Int → Int} : ∀ {l : List Int}, (∀ s ∈ l, 2 * f s = g s) → 2 * sumF f l = sumF g l
  | [], _ => rfl
  | x :: l, h => by
    simp only [sumF]
    have h1 := h x (List.mem_cons_self ..)
    have h2 := sumF_half (l := l) (fun s hs => h s (List.mem_cons_of_mem _ hs))
    omega

theorem sumF_filter (f : Int → Int) (p : Int → Bool) : ∀ (l : List Int), sumF f (l.filter p) = sumF (fun s => if p s = true then f s else 0) l
  | [] => rfl
  | x :: l => by
    have ih := sumF_filter f p l
    by_cases h : p x = true
    · rw [List.filter_cons_of_pos h]; simp only [sumF, ih, if_pos h]
    · rw [List.filter_cons_of_neg h]; simp only [sumF, ih, if_neg h]; omega

/-- All symbols of groups. -/
def allS : List En → List Int
  | [] => []
  | x :: xs => x.2 ++ allS xs

theorem allS_append : ∀ (a b : List En), allS (a ++ b) = allS a ++ allS b
  | [], b => rfl
  | x :: a, b => by simp only [List.cons_append, allS, allS_append a b, List.append_assoc]

theorem mem_allS {g : List En} {x : En} {s : Int} (hx : x ∈ g) (hs : s ∈ x.2) : s ∈ allS g := by
  induction g with
  | nil => cases hx
  | cons y g ih =>
    rcases List.mem_cons.1 hx with q | q
    · subst q; exact List.mem_append_left _ hs
    · exact List.mem_append_right _ (ih q)

theorem allS_without {g : List En} {k : Int} (h0 : 0 ≤ k) (h1 : k < (g.length : Int)) : (allS g).Perm ((g.getD k.toNat (0, [])).2 ++ allS (without g k)) := by
  have e := without_split h0 h1
  have e2 : allS g = allS (g.take k.toNat) ++ ((g.getD k.toNat (0, [])).2 ++ allS (g.drop (k + 1).toNat)) := by
    conv => lhs; rw [e]
    rw [allS_append]; rfl
  rw [e2]
  unfold without
  rw [allS_append]
  exact List.perm_append_comm_assoc ..

def wtS (o : List Int) (s : Int) : Int := p2 (8 - o.getD s.toNat 0)

/-- Groups whose codes fill everything. -/
structure HV (g : List En) (o : List Int) : Prop where
  nd : (allS g).Nodup
  rng : ∀ s ∈ allS g, 0 ≤ s ∧ s < 8
  o8 : o.length = 8
  out : ∀ s : Int, 0 ≤ s → s < 8 → s ∉ allS g → o.getD s.toNat 0 = 0
  grp : ∀ x ∈ g, sumF (wtS o) x.2 = 256 ∧ ∀ s ∈ x.2, 0 ≤ o.getD s.toNat 0 ∧ o.getD s.toNat 0 < (x.2.length : Int) ∧ (1 < x.2.length → 0 < o.getD s.toNat 0)

theorem bump_at {o : List Int} {s t : Int} (ho : o.length = 8) (s0 : 0 ≤ s) (s1 : s < 8) (t0 : 0 ≤ t) (t1 : t < 8) : (bump o s).getD t.toNat 0 = o.getD t.toNat 0 + (if t = s then 1 else 0) := by
  unfold bump
  have hs : s.toNat < o.length := by omega
  by_cases h : t = s
  · subst h
    simp [List.getD_eq_getElem?_getD, hs]
  · have hn : s.toNat ≠ t.toNat := by omega
    simp [List.getD_eq_getElem?_getD, List.getElem?_set, hn, h]

theorem bumps_at : ∀ {l o : List Int}, l.Nodup → (∀ s ∈ l, 0 ≤ s ∧ s < 8) → o.length = 8 → ∀ t : Int, 0 ≤ t → t < 8 → (bumps o l).getD t.toNat 0 = o.getD t.toNat 0 + (if t ∈ l then 1 else 0)
  | [], o, _, _, _, t, _, _ => by simp [bumps]
  | s :: l, o, hn, hs, ho, t, t0, t1 => by
    obtain ⟨n1, n2⟩ := List.nodup_cons.1 hn
    have e : bumps o (s :: l) = bumps (bump o s) l := rfl
    have hs0 := hs s (List.mem_cons_self ..)
    rw [e, bumps_at n2 (fun x hx => hs x (List.mem_cons_of_mem _ hx)) (by rw [bump_len, ho]) t t0 t1, bump_at ho hs0.1 hs0.2 t0 t1]
    by_cases h : t = s
    · subst h; simp [n1]
    · simp [h]

theorem HV.step {g : List En} {o : List Int} (h : HV g o) (hk : HOk g o) (hl : 1 < g.length) : HV (hN g) (bumps o (hC g).2) ∧ (allS (hN g)).Perm (allS g) := by
  obtain ⟨r0, r1⟩ := leastAt_range (g := g) (by omega)
  obtain ⟨a1, a2, a3, a4, a5⟩ := without_facts r0 r1
  have p1 := allS_without r0 r1
  have hG1 : hG g = without g (leastAt g) := rfl
  have hA1 : hA g = g.getD (leastAt g).toNat (0, []) := rfl
  rw [← hG1, ← hA1] at p1
  rw [← hG1] at a1 a5
  rw [← hA1] at a4
  obtain ⟨s0, s1⟩ := leastAt_range (g := hG g) (by omega)
  obtain ⟨b1, b2, b3, b4, b5⟩ := without_facts s0 s1
  have p2' := allS_without s0 s1
  have hG2 : hG (hG g) = without (hG g) (leastAt (hG g)) := rfl
  have hA2 : hA (hG g) = (hG g).getD (leastAt (hG g)).toNat (0, []) := rfl
  rw [← hG2, ← hA2] at p2'
  rw [← hG2] at b1 b5
  rw [← hA2] at b4
  have hc8 := (hk.step hl).2.2.2.2.2.1
  have eN : allS (hN g) = allS (hG (hG g)) ++ (hC g).2 := by unfold hN; rw [allS_append]; simp [allS]
  have eC : (hC g).2 = (hA g).2 ++ (hA (hG g)).2 := rfl
  have hperm : (allS (hN g)).Perm (allS g) := by
    rw [eN, eC]
    refine List.Perm.symm (p1.trans ?_)
    refine ((List.Perm.append_left _ p2')).trans ?_
    rw [← List.append_assoc]
    exact List.perm_append_comm
  have hnd : (allS (hN g)).Nodup := hperm.nodup_iff.2 h.nd
  have hrng : ∀ s ∈ allS (hN g), 0 ≤ s ∧ s < 8 := fun s hs => h.rng s (hperm.mem_iff.1 hs)
  have hnd2 := hnd
  rw [eN] at hnd2
  obtain ⟨n1, n2, n3⟩ := List.nodup_append.1 hnd2
  have hCr : ∀ s ∈ (hC g).2, 0 ≤ s ∧ s < 8 := fun s hs => hrng s (by rw [eN]; exact List.mem_append_right _ hs)
  have hat := bumps_at n2 hCr h.o8
  have gx := h.grp _ a4
  have gy := h.grp _ (a5 _ b4)
  have hlen : ((hC g).2.length : Int) = (hA g).2.length + (hA (hG g)).2.length := by rw [eC]; simp
  have hx1 : 0 < (hA g).2.length := by
    refine Nat.pos_of_ne_zero fun q => ?_
    have := gx.1
    rw [List.eq_nil_of_length_eq_zero q] at this
    simp [sumF] at this
  have hy1 : 0 < (hA (hG g)).2.length := by
    refine Nat.pos_of_ne_zero fun q => ?_
    have := gy.1
    rw [List.eq_nil_of_length_eq_zero q] at this
    simp [sumF] at this
  have hin : ∀ s ∈ (hC g).2, 0 ≤ o.getD s.toNat 0 ∧ o.getD s.toNat 0 + 1 < ((hC g).2.length : Int) := fun s hs => by
    rw [eC] at hs
    rcases List.mem_append.1 hs with q | q
    · have := gx.2 s q; omega
    · have := gy.2 s q; omega
  refine ⟨⟨hnd, hrng, by rw [bumps_len, h.o8], fun s q0 q1 hs => ?_, fun x hx => ?_⟩, hperm⟩
  · rw [hat s q0 q1, h.out s q0 q1 (fun q => hs (hperm.mem_iff.2 q)), if_neg (fun q => hs (by rw [eN]; exact List.mem_append_right _ q))]; rfl
  · unfold hN at hx
    rcases List.mem_append.1 hx with q | q
    · have hsame : ∀ s ∈ x.2, (bumps o (hC g).2).getD s.toNat 0 = o.getD s.toNat 0 := fun s hs => by
        have hm := mem_allS q hs
        have hr := hrng s (by rw [eN]; exact List.mem_append_left _ hm)
        rw [hat s hr.1 hr.2, if_neg (fun q2 => n3 s hm s q2 rfl)]; omega
      have gz := h.grp x (a5 _ (b5 _ q))
      refine ⟨?_, fun s hs => by rw [hsame s hs]; exact gz.2 s hs⟩
      rw [← gz.1]
      exact sumF_congr fun s hs => by unfold wtS; rw [hsame s hs]
    · rw [List.mem_singleton] at q
      subst q
      have hone : ∀ s ∈ (hC g).2, (bumps o (hC g).2).getD s.toNat 0 = o.getD s.toNat 0 + 1 := fun s hs => by
        rw [hat s (hCr s hs).1 (hCr s hs).2, if_pos hs]
      refine ⟨?_, fun s hs => by rw [hone s hs]; have := hin s hs; omega⟩
      have hh := sumF_half (f := wtS (bumps o (hC g).2)) (g := wtS o) (l := (hC g).2) fun s hs => by
        unfold wtS
        have := hin s hs
        rw [hone s hs, show 8 - o.getD s.toNat 0 = (8 - (o.getD s.toNat 0 + 1)) + 1 by omega, p2_step (by omega)]
      have hsum : sumF (wtS o) (hC g).2 = 512 := by rw [eC, sumF_append, gx.1, gy.1]; rfl
      omega

theorem huff_valid : ∀ (n : Nat) (g : List En) (o : List Int), g.length = n + 1 → HOk g o → HV g o → ∃ x, HV [x] (huff g.length g o) ∧ HOk [x] (huff g.length g o) ∧ x.2.Perm (allS g)
  | 0, g, o, hl, hk, hv => by
    rw [huff_end (by omega)]
    match g, hl with
    | [x], _ => exact ⟨x, hv, hk, by simp [allS]⟩
  | n + 1, g, o, hl, hk, hv => by
    have hs := hk.step (by omega)
    obtain ⟨v1, v2⟩ := hv.step hk (by omega)
    rw [huff_step (by omega) hs.2.2.1]
    obtain ⟨x, x1, x2, x3⟩ := huff_valid n (hN g) _ (by omega) hs.2.2.2.2.2.2.2 v1
    exact ⟨x, x1, x2, x3.trans v2⟩

theorem kraft8 {o : List Int} (h : o.length = 8) : kraft o = sumF (fun s => if 0 < o.getD s.toNat 0 then wtS o s else 0) [0, 1, 2, 3, 4, 5, 6, 7] := by
  match o, h with
  | [a, b, c, d, e, f, g, i], _ => rfl

theorem kraft_full {o : List Int} {x : En} (h : HV [x] o) (hk : HOk [x] o) (h2 : 1 < x.2.length) : lensOk o = true ∧ ∀ s ∈ x.2, 0 < o.getD s.toNat 0 := by
  have hx := h.grp x (List.mem_singleton.2 rfl)
  have eS : allS [x] = x.2 := by simp [allS]
  have hnd := h.nd
  have hr := h.rng
  have ho := h.out
  rw [eS] at hnd hr ho
  have h8 : (x.2.length : Int) ≤ 8 := by have := hk.syms; simp only [sumIn] at this; omega
  have hbd : ∀ s : Int, 0 ≤ s → s < 8 → 0 ≤ o.getD s.toNat 0 ∧ o.getD s.toNat 0 ≤ 8 := fun s q0 q1 => by
    by_cases q : s ∈ x.2
    · have := hx.2 s q; omega
    · rw [ho s q0 q1 q]; omega
  have hlens : lensIn o = true := lensIn_iff.2 ⟨h.o8, fun y hy => by
    obtain ⟨i, hi, e⟩ := List.getElem_of_mem hy
    have := hbd (i : Int) (by omega) (by have := h.o8; omega)
    have e2 : o.getD ((i : Int)).toNat 0 = y := by rw [← e]; simp [List.getD_eq_getElem?_getD, hi]
    omega⟩
  have hkr : kraft o = 256 := by
    rw [kraft8 h.o8, ← hx.1]
    have e1 : sumF (fun s => if 0 < o.getD s.toNat 0 then wtS o s else 0) [0, 1, 2, 3, 4, 5, 6, 7] = sumF (fun s => if decide (s ∈ x.2) = true then wtS o s else 0) [0, 1, 2, 3, 4, 5, 6, 7] := by
      refine sumF_congr fun s hs => ?_
      have hs8 : 0 ≤ s ∧ s < 8 := by simp at hs; omega
      by_cases q : s ∈ x.2
      · have := (hx.2 s q).2.2 h2
        simp only [if_pos this, q, decide_true, if_true]
      · have := ho s hs8.1 hs8.2 q
        rw [this]; simp [q]
    rw [e1, ← sumF_filter]
    refine sumF_perm ?_
    refine (List.perm_ext_iff_of_nodup (List.Pairwise.filter _ (by decide)) hnd).2 fun s => ?_
    rw [List.mem_filter]
    simp only [decide_eq_true_eq]
    refine ⟨fun q => q.2, fun q => ⟨?_, q⟩⟩
    have := hr s q
    have h' : s = 0 ∨ s = 1 ∨ s = 2 ∨ s = 3 ∨ s = 4 ∨ s = 5 ∨ s = 6 ∨ s = 7 := by omega
    simpa using h'
  exact ⟨by simp [lensOk, hlens, hkr], fun s hs => (hx.2 s hs).2.2 h2⟩

theorem allS_groups0 : ∀ (c : List Int) (k : Int), (allS (groups0 k c)).Nodup ∧ (∀ s ∈ allS (groups0 k c), k ≤ s ∧ s < k + c.length) ∧ (∀ j : Nat, 0 < c.getD j 0 → k + j ∈ allS (groups0 k c)) ∧ (∀ x ∈ groups0 k c, ∃ s, x.2 = [s]) ∧ (allS (groups0 k c)).length = (groups0 k c).length
  | [], k => by simp [groups0, allS]
  | n :: c, k => by
    obtain ⟨h1, h2, h3, h4, h5⟩ := allS_groups0 c (k + 1)
    simp only [groups0]
    by_cases q : 0 < n
    · simp only [if_pos q, List.cons_append, List.nil_append, allS]
      refine ⟨List.nodup_cons.2 ⟨fun m => by have := h2 k m; omega, h1⟩, ?_, ?_, ?_, ?_⟩
      · intro s hs
        rcases List.mem_cons.1 hs with r | r
        · subst r; simp; omega
        · have := h2 s r; simp; omega
      · intro j hj
        cases j with
        | zero => simp
        | succ j =>
          have := h3 j (by simpa using hj)
          rw [show k + ((j + 1 : Nat) : Int) = k + 1 + j by omega]
          exact List.mem_cons_of_mem _ this
      · intro x hx
        rcases List.mem_cons.1 hx with r | r
        · subst r; exact ⟨k, rfl⟩
        · exact h4 x r
      · simp [h5]
    · simp only [if_neg q, List.nil_append]
      refine ⟨h1, ?_, ?_, h4, h5⟩
      · intro s hs; have := h2 s hs; simp; omega
      · intro j hj
        cases j with
        | zero => simp at hj; omega
        | succ j =>
          have := h3 j (by simpa using hj)
          rw [show k + ((j + 1 : Nat) : Int) = k + 1 + j by omega]
          exact this

/-- Valid counts that are not all 0 have valid lengths; each symbol that is counted has one. -/
theorem lengths_valid {c : List Int} (h : cntOk c = true) (hs : ¬ sumL c = 0) : ∃ ls, lengthsD c = some ls ∧ lensOk ls = true ∧ ∀ j : Nat, 0 < c.getD j 0 → 0 < ls.getD j 0 := by
  refine ⟨_, if_pos ⟨h, hs⟩, ?_⟩
  obtain ⟨g1, g2, g3, g4, g5⟩ := allS_groups0 c 0
  have hk := HOk0 h
  have hc8 := (cntOk_len h).1
  have hpos : 0 < (groups0 0 c).length := by
    refine Nat.pos_of_ne_zero fun q => hs ?_
    have := ((groups0_facts c 0).2.2.1 (by simp only [cntOk, Bool.and_eq_true] at h; exact h.2)).1
    rw [List.eq_nil_of_length_eq_zero q] at this
    simp [sumW] at this
    omega
  by_cases one : (groups0 0 c).length = 1
  · rw [huff_end (by omega)]
    have hl : lengths0 (groups0 0 c) = zeros8.set (((groups0 0 c).getD 0 (0, [])).2.getD 0 0).toNat 1 := if_pos one
    match hg : groups0 0 c, one with
    | [x], _ =>
      rw [hg] at hl g2 g3 g4
      obtain ⟨s, hx⟩ := g4 x (List.mem_singleton.2 rfl)
      have hs8 := g2 s (by simp [allS, hx])
      have hl' : lengths0 [x] = zeros8.set s.toNat 1 := by rw [hl]; simp [hx]
      rw [hl']
      have hcase : s = 0 ∨ s = 1 ∨ s = 2 ∨ s = 3 ∨ s = 4 ∨ s = 5 ∨ s = 6 ∨ s = 7 := by omega
      refine ⟨by rcases hcase with r | r | r | r | r | r | r | r <;> subst r <;> decide, fun j hj => ?_⟩
      have hm := g3 j hj
      simp only [allS, hx, List.append_nil, List.mem_singleton] at hm
      have e : j = s.toNat := by omega
      subst e
      have : s.toNat < 8 := by omega
      simp [zeros8, List.getD_eq_getElem?_getD, this]
  · have hl : lengths0 (groups0 0 c) = zeros8 := if_neg one
    have hz : ∀ i : Nat, zeros8.getD i 0 = 0 := getD_rep8
    have hv : HV (groups0 0 c) zeros8 := by
      refine ⟨g1, fun s hs => by have := g2 s hs; omega, rfl, fun s _ _ _ => hz _, fun x hx => ?_⟩
      obtain ⟨s, e⟩ := g4 x hx
      rw [e]
      refine ⟨?_, fun t ht => by rw [hz]; simp⟩
      simp only [sumF, wtS, hz]; rfl
    rw [hl] at hk ⊢
    obtain ⟨n, hn⟩ : ∃ n, (groups0 0 c).length = n + 1 := ⟨(groups0 0 c).length - 1, by omega⟩
    obtain ⟨x, x1, x2, x3⟩ := huff_valid n _ _ hn hk hv
    obtain ⟨q1, q2⟩ := kraft_full x1 x2 (by rw [x3.length_eq, g5]; omega)
    refine ⟨q1, fun j hj => ?_⟩
    have := q2 (j : Int) (x3.mem_iff.2 (by have := g3 j hj; rwa [Int.zero_add] at this))
    simpa using this

theorem cnt_pos {s : Int} : ∀ {l : List Int}, s ∈ l → 0 < cnt s l
  | x :: l, h => by
    have := (cnt_bd s l).1
    simp only [cnt]
    rcases List.mem_cons.1 h with r | r
    · subst r; simp; omega
    · have := cnt_pos r; split <;> omega

/-- The lengths that a list's counts give. -/
def lensF (l : List Int) : List Int := (lengthsD (countsL l)).getD []

theorem countsL_sum {l : List Int} (h : ∀ s ∈ l, 0 ≤ s ∧ s ≤ 7) : sumL (countsL l) = l.length := by
  induction l with
  | nil => rfl
  | cons x l ih =>
    have h1 := ih (fun s hs => h s (List.mem_cons_of_mem _ hs))
    have hx := h x (List.mem_cons_self ..)
    have hcase : x = 0 ∨ x = 1 ∨ x = 2 ∨ x = 3 ∨ x = 4 ∨ x = 5 ∨ x = 6 ∨ x = 7 := by omega
    simp only [countsL, sumL, cnt, List.length_cons] at h1 ⊢
    rcases hcase with r | r | r | r | r | r | r | r <;> subst r <;> simp <;> omega

theorem countsL_ok {l : List Int} (hv : LV l = true) : cntOk (countsL l) = true := by
  have hl := LV_len hv
  have := fun s => cnt_bd s l
  simp only [cntOk, countsL, Bool.and_eq_true, decide_eq_true_eq, allIn]
  refine ⟨rfl, ?_⟩
  have h0 := this 0; have h1 := this 1; have h2 := this 2; have h3 := this 3; have h4 := this 4; have h5 := this 5; have h6 := this 6; have h7 := this 7
  and_intros <;> first | omega | trivial

theorem countsL_get {l : List Int} {s : Int} (h0 : 0 ≤ s) (h1 : s ≤ 7) : (countsL l).getD s.toNat 0 = cnt s l := by
  have hcase : s = 0 ∨ s = 1 ∨ s = 2 ∨ s = 3 ∨ s = 4 ∨ s = 5 ∨ s = 6 ∨ s = 7 := by omega
  rcases hcase with r | r | r | r | r | r | r | r <;> subst r <;> rfl

/-- A list that is not empty has codes. -/
theorem lensF_ok {l : List Int} (hv : LV l = true) (hne : l ≠ []) : lengthsD (countsL l) = some (lensF l) ∧ lensOk (lensF l) = true ∧ encOk (lensF l) l = true := by
  have hin := LV_in hv
  obtain ⟨ls, h1, h2, h3⟩ := lengths_valid (countsL_ok hv) (by rw [countsL_sum hin]; have := List.length_pos_iff.2 hne; omega)
  have e : lensF l = ls := by unfold lensF; rw [h1]; rfl
  rw [e]
  refine ⟨h1, h2, ?_⟩
  unfold encOk
  rw [List.all_eq_true]
  intro s hs
  have := hin s hs
  exact decide_eq_true (h3 _ (by rw [countsL_get this.1 this.2]; exact cnt_pos hs))

end Go.Mx

/-
  M21: runs and blocks.
-/
namespace Go.Mx

/-- What runs give, behind a symbol and behind what there is. -/
def joinFrom : List R2 → Option Int → List Int → Option (List Int)
  | [], _, a => some a
  | x :: xs, p, a => if (0 ≤ x.1 ∧ x.1 ≤ 7) ∧ (1 ≤ x.2 ∧ x.2 ≤ 40 - (a.length : Int)) ∧ p ≠ some x.1 then joinFrom xs (some x.1) (a ++ List.replicate x.2.toNat x.1) else none

def joinD (rs : List R2) : Option (List Int) := joinFrom rs none []

def lastSym : List R2 → Option Int → Option Int
  | [], p => p
  | x :: xs, _ => lastSym xs (some x.1)

theorem lastSym_snoc : ∀ (q : List R2) (y : R2) (p : Option Int), lastSym (q ++ [y]) p = some y.1
  | [], y, p => rfl
  | x :: q, y, p => lastSym_snoc q y _

theorem joinFrom_append : ∀ (a b : List R2) (p : Option Int) (acc : List Int), joinFrom (a ++ b) p acc = (joinFrom a p acc).bind fun m => joinFrom b (lastSym a p) m
  | [], b, p, acc => rfl
  | x :: a, b, p, acc => by
    simp only [List.cons_append, joinFrom, lastSym]
    split
    · exact joinFrom_append a b _ _
    · rfl

theorem joinFrom_one {y : R2} {p : Option Int} {m r : List Int} : joinFrom [y] p m = some r ↔ ((0 ≤ y.1 ∧ y.1 ≤ 7) ∧ (1 ≤ y.2 ∧ y.2 ≤ 40 - (m.length : Int)) ∧ p ≠ some y.1) ∧ m ++ List.replicate y.2.toNat y.1 = r := by
  simp only [joinFrom]
  split
  · rename_i h; simp [h]
  · rename_i h; simp [h]

theorem joinFrom_snoc {q : List R2} {y : R2} {p : Option Int} {a r : List Int} : joinFrom (q ++ [y]) p a = some r ↔ ∃ m, joinFrom q p a = some m ∧ ((0 ≤ y.1 ∧ y.1 ≤ 7) ∧ (1 ≤ y.2 ∧ y.2 ≤ 40 - (m.length : Int)) ∧ lastSym q p ≠ some y.1) ∧ m ++ List.replicate y.2.toNat y.1 = r := by
  rw [joinFrom_append]
  cases h : joinFrom q p a with
  | none => simp
  | some m =>
    simp only [Option.bind_some, Option.some.injEq, exists_eq_left']
    exact joinFrom_one

/-- Runs lead back to the list. -/
theorem runs_join : ∀ (n : Nat) (l : List Int), l.length = n → n ≤ 40 → (∀ s ∈ l, 0 ≤ s ∧ s ≤ 7) → joinD (runs l) = some l
  | 0, l, h, _, _ => by rw [List.eq_nil_of_length_eq_zero h]; rfl
  | n + 1, l, h, hn, hl => by
    rcases List.eq_nil_or_concat l with q | ⟨m, s, q⟩
    · subst q; simp at h
    · rw [List.concat_eq_append] at q
      subst q
      have hm : m.length = n := by simp at h; exact h
      have hs := hl s (by simp)
      have ih := runs_join n m hm (by omega) (fun x hx => hl x (List.mem_append_left _ hx))
      rw [runs_snoc]
      cases n with
      | zero =>
        rw [List.eq_nil_of_length_eq_zero hm]
        show joinFrom ([] ++ [(s, 1)]) none [] = _
        exact joinFrom_snoc.2 ⟨[], rfl, ⟨hs, by simp, by simp [lastSym]⟩, by simp⟩
      | succ n =>
        obtain ⟨q, k, e, hk, _⟩ := runs_last n m hm
        rw [e] at ih ⊢
        generalize m.getD n 0 = x at *
        obtain ⟨a, a1, ⟨a2, a3, a4⟩, a5⟩ := joinFrom_snoc.1 ih
        have hlen : (a.length : Int) + k = n + 1 := by
          have := congrArg List.length a5
          simp only [List.length_append, List.length_replicate] at this
          simp only at a3
          omega
        rw [runsAdd_last]
        split
        · rename_i hx
          subst hx
          refine joinFrom_snoc.2 ⟨a, a1, ⟨a2, by simp only at a3 ⊢; omega, a4⟩, ?_⟩
          simp only at a5 ⊢
          rw [← a5, show (k + 1).toNat = k.toNat + 1 by omega, List.replicate_succ', List.append_assoc]
        · rename_i hx
          refine joinFrom_snoc.2 ⟨m, ih, ⟨hs, by simp only; omega, ?_⟩, by simp⟩
          rw [lastSym_snoc]
          simp only [ne_eq, Option.some.injEq]
          exact hx

theorem joinFrom_in : ∀ {rs : List R2} {p : Option Int} {a r : List Int}, joinFrom rs p a = some r → ∀ x ∈ rs, (0 ≤ x.1 ∧ x.1 ≤ 7) ∧ 1 ≤ x.2 ∧ x.2 ≤ 40
  | y :: rs, p, a, r, h, x, hx => by
    rw [joinFrom] at h
    split at h
    · rename_i hc
      rcases List.mem_cons.1 hx with q | q
      · subst q; exact ⟨hc.1, hc.2.1.1, by omega⟩
      · exact joinFrom_in h x q
    · cases h

theorem joinFrom_len : ∀ {rs : List R2} {p : Option Int} {a r : List Int}, joinFrom rs p a = some r → a.length ≤ 40 → r.length ≤ 40
  | [], p, a, r, h, ha => by cases h; exact ha
  | y :: rs, p, a, r, h, ha => by
    rw [joinFrom] at h
    split at h
    · rename_i hc
      exact joinFrom_len h (by simp; omega)
    · cases h

/-- Runs as bytes. -/
def flatR (rs : List R2) : List Int := rs.flatMap fun x => [x.1, x.2]

def unflat : Nat → List Int → List R2
  | n + 1, a :: b :: r => (a, b) :: unflat n r
  | _, _ => []

theorem flatR_len (rs : List R2) : (flatR rs).length = 2 * rs.length := by
  induction rs with
  | nil => rfl
  | cons x rs ih => simp only [flatR, List.flatMap_cons, List.length_append, List.length_cons, List.length_nil] at ih ⊢; omega

theorem unflat_flat : ∀ (rs : List R2) (more : List Int), unflat rs.length (flatR rs ++ more) = rs
  | [], more => by simp [unflat]
  | x :: rs, more => by
    have := unflat_flat rs more
    simp only [flatR, List.flatMap_cons, List.cons_append, List.nil_append, List.length_cons, unflat] at this ⊢
    rw [this]

theorem flatR_in {rs : List R2} (h : ∀ x ∈ rs, (0 ≤ x.1 ∧ x.1 ≤ 7) ∧ 1 ≤ x.2 ∧ x.2 ≤ 40) : allIn 0 255 (flatR rs) = true := by
  refine allIn_iff.2 fun y hy => ?_
  obtain ⟨x, hx, hxy⟩ := List.mem_flatMap.1 hy
  have := h x hx
  simp at hxy
  omega

/-- Lengths, two in each byte. -/
def lens4 (ls : List Int) : List Int := [16 * ls.getD 0 0 + ls.getD 1 0, 16 * ls.getD 2 0 + ls.getD 3 0, 16 * ls.getD 4 0 + ls.getD 5 0, 16 * ls.getD 6 0 + ls.getD 7 0]

def unlens (b : List Int) : List Int := b.flatMap fun n => [n / 16, n % 16]

theorem unlens_lens4 {ls : List Int} (h : lensOk ls = true) : unlens (lens4 ls) = ls ∧ allIn 0 255 (lens4 ls) = true := by
  simp only [lensOk, Bool.and_eq_true] at h
  obtain ⟨h8, hm⟩ := lensIn_iff.1 h.1
  match ls, h8 with
  | [a, b, c, d, e, f, g, i], _ =>
    simp only [List.mem_cons, List.not_mem_nil, or_false, forall_eq_or_imp, forall_eq] at hm
    obtain ⟨ha, hb, hc, hd, he, hf, hg, hi⟩ := hm
    simp [lens4, unlens, allIn]
    and_intros <;> omega

/-- A list as a block, in a way. -/
def blockAs (l : List Int) (w : Int) : Option (List Int) :=
  if LV l = true then
    if w = 0 then some (0 :: (l.length : Int) :: l)
    else if w = 1 then some (1 :: ((runs l).length : Int) :: flatR (runs l))
    else if w = 2 then (if l.length = 0 then none else some (2 :: (l.length : Int) :: (lens4 (lensF l) ++ bytesOf (enc (lensF l) l))))
    else if w = 3 then some (3 :: ((parseD l).length : Int) :: (parseD l).map tokByte)
    else none
  else none

/-- The list that bytes tell, as the program reads them. -/
def listD (b : List Int) : Option (List Int) :=
  if b.getD 0 0 = 0 then (if ((b.drop 2).length : Int) < b.getD 1 0 then none else some ((b.drop 2).take (b.getD 1 0).toNat))
  else if b.getD 0 0 = 1 then (if ((b.drop 2).length : Int) < 2 * b.getD 1 0 then none else joinD (unflat (b.getD 1 0).toNat (b.drop 2)))
  else if b.getD 0 0 = 2 then (if (b.drop 2).length < 4 then none else (decD (bitsB (((b.drop 2).drop 4).take 40)) (unlens ((b.drop 2).take 4)) (b.getD 1 0)).map fun r => r.1)
  else if b.getD 0 0 = 3 then (if ((b.drop 2).length : Int) < b.getD 1 0 then none else expand (((b.drop 2).take (b.getD 1 0).toNat).map byteTok))
  else none

/-- The same as the reference reads it. -/
def listS (b : List Int) : Option (List Int) :=
  if b.getD 0 0 = 0 then some ((b.drop 2).take (b.getD 1 0).toNat)
  else if b.getD 0 0 = 1 then joinD (unflat (b.getD 1 0).toNat (b.drop 2))
  else if b.getD 0 0 = 2 then (decD (bitsB (((b.drop 2).drop 4).take 75)) (unlens ((b.drop 2).take 4)) (b.getD 1 0)).map fun r => r.1
  else if b.getD 0 0 = 3 then expand (((b.drop 2).take (b.getD 1 0).toNat).map byteTok)
  else none

theorem block_valid {l x : List Int} {w : Int} (h : blockAs l w = some x) : LV l = true := by
  unfold blockAs at h
  split at h
  · assumption
  · cases h

theorem enc_bytes {l : List Int} (hv : LV l = true) (hne : l ≠ []) (more : List Int) (hm : allIn 0 255 more = true) (k : Nat) (hk : 40 ≤ k) (hk2 : k ≤ 75) : decD (bitsB ((bytesOf (enc (lensF l) l) ++ more).take k)) (lensF l) l.length = some (l, ((enc (lensF l) l).length : Int)) := by
  obtain ⟨h1, h2, h3⟩ := lensF_ok hv hne
  have hin := LV_in hv
  have hl := LV_len hv
  obtain ⟨e1, e2⟩ := enc_bd h2 hin h3
  obtain ⟨⟨z, z1, z2⟩, z3⟩ := bits_bytes _ _ (Nat.le_refl _) e2
  have hbl := bytesOf_len (enc (lensF l) l)
  have ht : (bytesOf (enc (lensF l) l) ++ more).take k = bytesOf (enc (lensF l) l) ++ more.take (k - (bytesOf (enc (lensF l) l)).length) := by
    rw [List.take_append, List.take_of_length_le (by omega)]
  have hm2 := allIn_take (k - (bytesOf (enc (lensF l) l)).length) hm
  have hall : allIn 0 255 ((bytesOf (enc (lensF l) l) ++ more).take k) = true := allIn_take k (allIn_append.2 ⟨z3, hm⟩)
  have hlen : (bitsB ((bytesOf (enc (lensF l) l) ++ more).take k)).length ≤ 600 := by rw [bitsB_len, List.length_take]; omega
  have hcond : (bitsIn (bitsB ((bytesOf (enc (lensF l) l) ++ more).take k)) && lensOk (lensF l) && decide (0 ≤ (l.length : Int) ∧ (l.length : Int) ≤ 40)) = true := by
    simp only [bitsIn, Bool.and_eq_true, decide_eq_true_eq]
    exact ⟨⟨⟨hlen, bitsB_in hall⟩, h2⟩, by omega, by omega⟩
  have hd := dec_enc h2 (l := l) (pre := []) (post := z ++ bitsB (more.take (k - (bytesOf (enc (lensF l) l)).length))) hin h3 rfl (allIn_append.2 ⟨z2, bitsB_in hm2⟩)
  have e : bitsB ((bytesOf (enc (lensF l) l) ++ more).take k) = [] ++ (enc (lensF l) l ++ (z ++ bitsB (more.take (k - (bytesOf (enc (lensF l) l)).length)))) := by
    rw [ht, bitsB_append, z1, List.append_assoc, List.nil_append]
  unfold decD
  rw [if_pos hcond, e, show ((l.length : Int)).toNat = l.length by omega]
  simpa using hd

/-- What was made as a block is read back, whatever lies behind it. -/
theorem block_back {l x more : List Int} {w : Int} (h : blockAs l w = some x) (hm : allIn 0 255 more = true) : listD (x ++ more) = some l ∧ listS (x ++ more) = some l := by
  have hv := block_valid h
  have hin := LV_in hv
  have hl := LV_len hv
  unfold blockAs at h
  rw [if_pos hv] at h
  by_cases w0 : w = 0
  · rw [if_pos w0] at h
    cases h
    have e1 : ((l ++ more).take ((l.length : Int)).toNat) = l := by rw [show ((l.length : Int)).toNat = l.length by omega, List.take_left]
    have e2 : ¬ (((l ++ more).length : Nat) : Int) < (l.length : Int) := by simp; omega
    simp only [listD, listS, List.cons_append, List.getD_cons_zero, List.getD_cons_succ, List.drop_succ_cons, List.drop_zero, if_true, e1, if_neg e2]
    exact ⟨trivial, trivial⟩
  rw [if_neg w0] at h
  by_cases w1 : w = 1
  · rw [if_pos w1] at h
    cases h
    have hj := runs_join l.length l rfl hl hin
    have e1 : unflat (((runs l).length : Int)).toNat (flatR (runs l) ++ more) = runs l := by rw [show (((runs l).length : Int)).toNat = (runs l).length by omega, unflat_flat]
    have e2 : ¬ (((flatR (runs l) ++ more).length : Nat) : Int) < 2 * ((runs l).length : Int) := by rw [List.length_append, flatR_len]; omega
    simp only [listD, listS, List.cons_append, List.getD_cons_zero, List.getD_cons_succ, List.drop_succ_cons, List.drop_zero, if_true, e1, if_neg e2, hj, if_neg (show ¬ (1 : Int) = 0 by omega)]
    exact ⟨trivial, trivial⟩
  rw [if_neg w1] at h
  by_cases w2 : w = 2
  · rw [if_pos w2] at h
    split at h
    · cases h
    · rename_i hne0
      cases h
      have hne : l ≠ [] := fun q => hne0 (by rw [q]; rfl)
      obtain ⟨h1, h2, h3⟩ := lensF_ok hv hne
      have e1 : (lens4 (lensF l) ++ (bytesOf (enc (lensF l) l) ++ more)).take 4 = lens4 (lensF l) := List.take_left' rfl
      have e2 : (lens4 (lensF l) ++ (bytesOf (enc (lensF l) l) ++ more)).drop 4 = bytesOf (enc (lensF l) l) ++ more := List.drop_left' rfl
      have e3 := (unlens_lens4 h2).1
      have e4 : ¬ (lens4 (lensF l) ++ (bytesOf (enc (lensF l) l) ++ more)).length < 4 := by simp [lens4]
      simp only [listD, listS, List.cons_append, List.getD_cons_zero, List.getD_cons_succ, List.drop_succ_cons, List.drop_zero, List.append_assoc, if_true, e1, e2, e3, if_neg e4, enc_bytes hv hne more hm 40 (by omega) (by omega), enc_bytes hv hne more hm 75 (by omega) (by omega), Option.map_some, if_neg (show ¬ (2 : Int) = 0 by omega), if_neg (show ¬ (2 : Int) = 1 by omega)]
      exact ⟨trivial, trivial⟩
  rw [if_neg w2] at h
  by_cases w3 : w = 3
  · rw [if_pos w3] at h
    cases h
    have e0 : (((parseD l).map tokByte).length : Int) = (parseD l).length := by simp
    have e1 : ((parseD l).map tokByte ++ more).take (((parseD l).length : Int)).toNat = (parseD l).map tokByte := by
      rw [show (((parseD l).length : Int)).toNat = ((parseD l).map tokByte).length by omega, List.take_left]
    have e2 : ¬ ((((parseD l).map tokByte ++ more).length : Nat) : Int) < ((parseD l).length : Int) := by rw [List.length_append]; omega
    have e3 := (toks_bytes (parseD_fine l)).1
    simp only [listD, listS, List.cons_append, List.getD_cons_zero, List.getD_cons_succ, List.drop_succ_cons, List.drop_zero, if_true, e1, if_neg e2, e3, parseD_back hv, if_neg (show ¬ (3 : Int) = 0 by omega), if_neg (show ¬ (3 : Int) = 1 by omega), if_neg (show ¬ (3 : Int) = 2 by omega)]
    exact ⟨trivial, trivial⟩
  · rw [if_neg w3] at h; cases h

theorem runs_fine {l : List Int} (hv : LV l = true) : ∀ x ∈ runs l, (0 ≤ x.1 ∧ x.1 ≤ 7) ∧ 1 ≤ x.2 ∧ x.2 ≤ 40 := joinFrom_in (runs_join l.length l rfl (LV_len hv) (LV_in hv))

theorem block_facts {l x : List Int} {w : Int} (h : blockAs l w = some x) : 0 ≤ w ∧ w ≤ 3 ∧ 2 ≤ x.length ∧ x.length ≤ 82 ∧ allIn 0 255 x = true ∧ x.getD 0 0 = w ∧ LV l = true := by
  have hv := block_valid h
  have hin := LV_in hv
  have hl := LV_len hv
  unfold blockAs at h
  rw [if_pos hv] at h
  by_cases w0 : w = 0
  · rw [if_pos w0] at h
    cases h
    refine ⟨by omega, by omega, by simp, by simp; omega, ?_, by simp [w0], hv⟩
    simp only [allIn, Bool.and_eq_true, decide_eq_true_eq]
    exact ⟨by omega, by omega, allIn_iff.2 fun n hn => by have := hin n hn; omega⟩
  rw [if_neg w0] at h
  by_cases w1 : w = 1
  · rw [if_pos w1] at h
    cases h
    have hr := runs_len l
    have hf := flatR_len (runs l)
    refine ⟨by omega, by omega, by simp, by simp only [List.length_cons]; omega, ?_, by simp [w1], hv⟩
    simp only [allIn, Bool.and_eq_true, decide_eq_true_eq]
    exact ⟨by omega, by omega, flatR_in (runs_fine hv)⟩
  rw [if_neg w1] at h
  by_cases w2 : w = 2
  · rw [if_pos w2] at h
    split at h
    · cases h
    · rename_i hne0
      cases h
      have hne : l ≠ [] := fun q => hne0 (by rw [q]; rfl)
      obtain ⟨h1, h2, h3⟩ := lensF_ok hv hne
      obtain ⟨e1, e2⟩ := enc_bd h2 hin h3
      have hb := bits_bytes _ _ (Nat.le_refl _) e2
      have hbl := bytesOf_len (enc (lensF l) l)
      refine ⟨by omega, by omega, by simp, by simp [lens4]; omega, ?_, by simp [w2], hv⟩
      simp only [allIn, Bool.and_eq_true, decide_eq_true_eq]
      exact ⟨by omega, by omega, allIn_append.2 ⟨(unlens_lens4 h2).2, hb.2⟩⟩
  rw [if_neg w2] at h
  by_cases w3 : w = 3
  · rw [if_pos w3] at h
    cases h
    have := parseD_len l
    refine ⟨by omega, by omega, by simp, by simp; omega, ?_, by simp [w3], hv⟩
    simp only [allIn, Bool.and_eq_true, decide_eq_true_eq]
    exact ⟨by omega, by omega, (toks_bytes (parseD_fine l)).2⟩
  · rw [if_neg w3] at h; cases h

/-- The block at the beginning of bytes, if a list is told there as it is written. -/
def blockOf (o : Option (List Int)) (b : List Int) : Option (List Int × Int) := o.bind fun l => (blockAs l (b.getD 0 0)).bind fun x => if x.length ≤ b.length ∧ x = b.take x.length then some (l, (x.length : Int)) else none

def openD (b : List Int) : Option (List Int × Int) := if (allIn 0 255 b && decide (2 ≤ b.length)) = true then blockOf (listD b) b else none

theorem blockOf_iff {o : Option (List Int)} {b l : List Int} {n : Int} : blockOf o b = some (l, n) ↔ o = some l ∧ ∃ x, blockAs l (b.getD 0 0) = some x ∧ x.length ≤ b.length ∧ x = b.take x.length ∧ n = x.length := by
  unfold blockOf
  cases o with
  | none => simp
  | some l' =>
    simp only [Option.bind_some, Option.some.injEq]
    cases h : blockAs l' (b.getD 0 0) with
    | none =>
      simp only [Option.bind_none]
      refine ⟨fun q => (by cases q), ?_⟩
      rintro ⟨rfl, x, hx, _⟩
      rw [h] at hx; cases hx
    | some x =>
      simp only [Option.bind_some]
      split
      · rename_i hc
        simp only [Option.some.injEq, Prod.mk.injEq]
        refine ⟨fun ⟨q1, q2⟩ => ⟨q1, x, by rw [← q1, h], hc.1, hc.2, q2.symm⟩, ?_⟩
        rintro ⟨rfl, y, hy, q1, q2, q3⟩
        rw [h] at hy; cases hy
        exact ⟨rfl, q3.symm⟩
      · rename_i hc
        refine ⟨fun q => (by cases q), ?_⟩
        rintro ⟨rfl, y, hy, q1, q2, q3⟩
        rw [h] at hy; cases hy
        exact absurd ⟨q1, q2⟩ hc

theorem block_begin {b l x : List Int} {w : Int} (hb : allIn 0 255 b = true) (h : blockAs l w = some x) (hx : x = b.take x.length) : listD b = some l ∧ listS b = some l ∧ b.getD 0 0 = w := by
  have e : x ++ b.drop x.length = b := by
    have := List.take_append_drop x.length b
    rw [← hx] at this
    exact this
  have hk := block_back h (more := b.drop x.length) (allIn_drop _ hb)
  rw [e] at hk
  obtain ⟨f1, f2, f3, f4, f5, f6, f7⟩ := block_facts h
  refine ⟨hk.1, hk.2, ?_⟩
  rw [← f6, ← e]
  match x, f3 with
  | a :: y, _ => rfl

/-- The reference opens as the program does. -/
theorem open_same {b : List Int} (hb : allIn 0 255 b = true) : blockOf (listS b) b = blockOf (listD b) b := by
  apply Option.ext
  rintro ⟨l, n⟩
  rw [blockOf_iff, blockOf_iff]
  constructor
  · rintro ⟨h, x, h1, h2, h3, h4⟩; exact ⟨(block_begin hb h1 h3).1, x, h1, h2, h3, h4⟩
  · rintro ⟨h, x, h1, h2, h3, h4⟩; exact ⟨(block_begin hb h1 h3).2.1, x, h1, h2, h3, h4⟩

theorem openD_iff {b l : List Int} {n : Int} : openD b = some (l, n) ↔ allIn 0 255 b = true ∧ ∃ x w, blockAs l w = some x ∧ x.length ≤ b.length ∧ x = b.take x.length ∧ n = x.length := by
  unfold openD
  split
  · rename_i hc
    simp only [Bool.and_eq_true, decide_eq_true_eq] at hc
    rw [blockOf_iff]
    constructor
    · rintro ⟨h, x, h1, h2, h3, h4⟩; exact ⟨hc.1, x, _, h1, h2, h3, h4⟩
    · rintro ⟨_, x, w, h1, h2, h3, h4⟩
      obtain ⟨q1, q2, q3⟩ := block_begin hc.1 h1 h3
      exact ⟨q1, x, by rw [q3]; exact h1, h2, h3, h4⟩
  · rename_i hc
    refine ⟨fun q => (by cases q), ?_⟩
    rintro ⟨h, x, w, h1, h2, h3, h4⟩
    have := block_facts h1
    exact absurd (by simp [h]; omega) hc

/-- A block and anything behind it is opened. -/
theorem open_block {l x more : List Int} {w : Int} (h : blockAs l w = some x) (hm : allIn 0 255 more = true) : openD (x ++ more) = some (l, (x.length : Int)) :=
  openD_iff.2 ⟨allIn_append.2 ⟨(block_facts h).2.2.2.2.1, hm⟩, x, w, h, by simp, by simp, rfl⟩

end Go.Mx

/-
  M22: the shortest block, sizes, archives.
-/
namespace Go.Mx

def shorter (b : List Int) (o : Option (List Int)) : List Int :=
  match o with
  | some x => if x.length < b.length then x else b
  | none => b

/-- The shortest block of the first ways. -/
def packTo (l : List Int) : Nat → List Int
  | 0 => (blockAs l 0).getD []
  | n + 1 => shorter (packTo l n) (blockAs l ((n : Int) + 1))

def packB (l : List Int) : List Int := packTo l 3

theorem blockAs_no {l : List Int} (h : ¬ LV l = true) (w : Int) : blockAs l w = none := if_neg h

theorem packTo_no {l : List Int} (h : ¬ LV l = true) : ∀ n, packTo l n = []
  | 0 => by rw [packTo, blockAs_no h]; rfl
  | n + 1 => by rw [packTo, blockAs_no h, packTo_no h n]; rfl

theorem packB_no {l : List Int} (h : ¬ LV l = true) : packB l = [] := packTo_no h 3

theorem blockAs_0 {l : List Int} (h : LV l = true) : blockAs l 0 = some (0 :: (l.length : Int) :: l) := by unfold blockAs; rw [if_pos h]; rfl

theorem packTo_ok {l : List Int} (h : LV l = true) : ∀ n : Nat, ∃ w : Int, 0 ≤ w ∧ w ≤ n ∧ blockAs l w = some (packTo l n) ∧ ∀ w' x, 0 ≤ w' → w' ≤ (n : Int) → blockAs l w' = some x → (packTo l n).length ≤ x.length ∧ (w' < w → (packTo l n).length < x.length)
  | 0 => by
    refine ⟨0, by omega, by omega, ?_, ?_⟩
    · rw [packTo, blockAs_0 h]; rfl
    · intro w' x h0 h1 hx
      rw [show w' = 0 by omega] at hx
      rw [packTo, hx]
      exact ⟨Nat.le_refl _, fun q => by omega⟩
  | n + 1 => by
    obtain ⟨w, w0, w1, w2, w3⟩ := packTo_ok h n
    rw [packTo]
    cases hb : blockAs l ((n : Int) + 1) with
    | none =>
      refine ⟨w, w0, by omega, w2, fun w' x h0 h1 hx => ?_⟩
      by_cases e : w' = (n : Int) + 1
      · rw [e, hb] at hx; cases hx
      · exact w3 w' x h0 (by omega) hx
    | some y =>
      simp only [shorter]
      by_cases q : y.length < (packTo l n).length
      · rw [if_pos q]
        refine ⟨(n : Int) + 1, by omega, by omega, hb, fun w' x h0 h1 hx => ?_⟩
        by_cases e : w' = (n : Int) + 1
        · rw [e, hb] at hx; cases hx; exact ⟨Nat.le_refl _, fun q => by omega⟩
        · have := (w3 w' x h0 (by omega) hx).1
          exact ⟨by omega, fun _ => by omega⟩
      · rw [if_neg q]
        refine ⟨w, w0, by omega, w2, fun w' x h0 h1 hx => ?_⟩
        by_cases e : w' = (n : Int) + 1
        · rw [e, hb] at hx; cases hx; exact ⟨by omega, fun q2 => by omega⟩
        · exact w3 w' x h0 (by omega) hx

theorem packB_ok {l : List Int} (h : LV l = true) : ∃ w : Int, 0 ≤ w ∧ w ≤ 3 ∧ blockAs l w = some (packB l) ∧ (packB l).getD 0 0 = w ∧ (∀ w' x, blockAs l w' = some x → (packB l).length ≤ x.length ∧ (w' < w → (packB l).length < x.length)) ∧ 2 ≤ (packB l).length ∧ (packB l).length ≤ l.length + 2 ∧ (packB l).length ≤ 42 ∧ allIn 0 255 (packB l) = true := by
  obtain ⟨w, w0, w1, w2, w3⟩ := packTo_ok h 3
  have hl := LV_len h
  have hf := block_facts w2
  have h0 := w3 0 _ (by omega) (by omega) (blockAs_0 h)
  simp only [List.length_cons] at h0
  refine ⟨w, w0, by omega, w2, hf.2.2.2.2.2.1, fun w' x hx => w3 w' x (block_facts hx).1 (by have := (block_facts hx).2.1; omega) hx, hf.2.2.1, ?_, ?_, hf.2.2.2.2.1⟩
  · unfold packB; omega
  · unfold packB; omega

theorem packB_len (l : List Int) : (packB l).length ≤ 42 ∧ allIn 0 255 (packB l) = true := by
  by_cases h : LV l = true
  · obtain ⟨w, w0, w1, w2, w3, w4, w5, w6, w7, w8⟩ := packB_ok h
    exact ⟨w7, w8⟩
  · rw [packB_no h]; exact ⟨by simp, rfl⟩

/-- The sizes of the blocks of a list. -/
def sizeAs (l : List Int) (w : Int) : Int := match blockAs l w with
  | some x => (x.length : Int)
  | none => -1

def sizesD (l : List Int) : List Int := if LV l = true then [sizeAs l 0, sizeAs l 1, sizeAs l 2, sizeAs l 3] else []

def bestD (l : List Int) : Int := if LV l = true then (packB l).getD 0 0 else -1

def shareD (l : List Int) : Int := if LV l = true then (100 * ((packB l).length : Int) + ((l.length : Int) + 2) - 1) / ((l.length : Int) + 2) else -1

/-! ### Archives -/

def indexE (es : List En) : List Int := es.flatMap fun e => [e.1, ((packB e.2).length : Int)]

def blocksE (es : List En) : List Int := es.flatMap fun e => packB e.2

def packE (es : List En) : List Int := (es.length : Int) :: (indexE es ++ blocksE es)

def archD (es : List En) : Option (List Int) := if entOk es = true then some (packE es) else none

theorem indexE_len (es : List En) : (indexE es).length = 2 * es.length := by
  induction es with
  | nil => rfl
  | cons x es ih => simp only [indexE, List.flatMap_cons, List.length_append, List.length_cons, List.length_nil] at ih ⊢; omega

theorem indexE_get : ∀ (es : List En) (more : List Int) (j : Nat), j < es.length → (indexE es ++ more).getD (2 * j) 0 = (es.getD j (0, [])).1 ∧ (indexE es ++ more).getD (2 * j + 1) 0 = ((packB (es.getD j (0, [])).2).length : Int)
  | e :: es, more, 0, h => by simp [indexE]
  | e :: es, more, j + 1, h => by
    have ih := indexE_get es more j (by simp at h; omega)
    rw [show 2 * (j + 1) = 2 * j + 1 + 1 by omega]
    simp only [indexE, List.flatMap_cons, List.cons_append, List.nil_append, List.getD_cons_succ] at ih ⊢
    exact ih

theorem blocksE_len (es : List En) : (blocksE es).length ≤ 42 * es.length := by
  induction es with
  | nil => simp [blocksE]
  | cons x es ih =>
    have := (packB_len x.2).1
    simp only [blocksE, List.flatMap_cons, List.length_append, List.length_cons] at ih ⊢; omega

theorem blocksE_append (a b : List En) : blocksE (a ++ b) = blocksE a ++ blocksE b := by simp [blocksE]
theorem indexE_append (a b : List En) : indexE (a ++ b) = indexE a ++ indexE b := by simp [indexE]

theorem blocksE_in (es : List En) : allIn 0 255 (blocksE es) = true := by
  induction es with
  | nil => rfl
  | cons x es ih => exact allIn_append.2 ⟨(packB_len x.2).2, ih⟩

theorem packE_in {es : List En} (h : entOk es = true) : allIn 0 255 (packE es) = true := by
  have h' := entOk_iff.1 h
  simp only [packE, allIn, Bool.and_eq_true, decide_eq_true_eq]
  refine ⟨by omega, allIn_append.2 ⟨?_, blocksE_in es⟩⟩
  refine allIn_iff.2 fun y hy => ?_
  obtain ⟨x, hx, hxy⟩ := List.mem_flatMap.1 hy
  have h1 := ent_all h'.1 hx
  have h2 := (packB_len x.2).1
  simp at hxy
  omega

theorem packE_len {es : List En} (h : entOk es = true) : (packE es).length ≤ 221 := by
  have h' := entOk_iff.1 h
  have h1 := indexE_len es
  have h2 := blocksE_len es
  simp only [packE, List.length_cons, List.length_append]
  omega

/-- Entries as the program reads them: how many are left, the next one's number, its place. -/
def readE (b : List Int) : Nat → Int → Int → Option (List En)
  | 0, _, _ => some []
  | n + 1, k, a => (openD (b.drop a.toNat)).bind fun r => (readE b n (k + 1) (a + r.2)).map fun es => (b.getD (1 + 2 * k).toNat 0, r.1) :: es

/-- As the reference reads them. -/
def readS (b : List Int) : Nat → Int → Int → List En
  | 0, _, _ => []
  | n + 1, k, a => if a ≤ (b.length : Int) then (b.getD (1 + 2 * k).toNat 0, ((openD (b.drop a.toNat)).getD ([], 0)).1) :: readS b n (k + 1) (a + ((openD (b.drop a.toNat)).getD ([], 0)).2) else []

theorem read_back {b : List Int} (hb : allIn 0 255 b = true) : ∀ (es : List En) (k a : Int) (more : List Int), 0 ≤ a → (∀ e ∈ es, LV e.2 = true) → b.drop a.toNat = blocksE es ++ more → a ≤ (b.length : Int) → (∀ j : Nat, j < es.length → b.getD (1 + 2 * (k + j)).toNat 0 = (es.getD j (0, [])).1) →
    readE b es.length k a = some es ∧ readS b es.length k a = es
  | [], k, a, more, h0, hv, hd, ha, hi => ⟨rfl, rfl⟩
  | e :: es, k, a, more, h0, hv, hd, ha, hi => by
    have hve := hv e (List.mem_cons_self ..)
    obtain ⟨w, w0, w1, w2, w3, w4, w5, w6, w7, w8⟩ := packB_ok hve
    have hd1 : b.drop a.toNat = packB e.2 ++ (blocksE es ++ more) := by rw [hd]; simp [blocksE]
    have hm : allIn 0 255 (blocksE es ++ more) = true := by
      have := allIn_drop a.toNat hb
      rw [hd1] at this
      exact (allIn_append.1 this).2
    have ho := open_block w2 hm
    rw [← hd1] at ho
    have hd2 : b.drop (a + ((packB e.2).length : Int)).toNat = blocksE es ++ more := by
      rw [show (a + ((packB e.2).length : Int)).toNat = a.toNat + (packB e.2).length by omega, ← List.drop_drop, hd1, List.drop_left]
    have hlen : a + ((packB e.2).length : Int) ≤ (b.length : Int) := by
      have := congrArg List.length hd1
      simp only [List.length_drop, List.length_append] at this
      omega
    have ih := read_back hb es (k + 1) (a + ((packB e.2).length : Int)) more (by omega) (fun x hx => hv x (List.mem_cons_of_mem _ hx)) hd2 hlen (fun j hj => by
      have := hi (j + 1) (by simp; omega)
      rw [show k + 1 + (j : Int) = k + ((j + 1 : Nat) : Int) by omega, this]; simp)
    have hn := hi 0 (by simp)
    simp only [List.getD_cons_zero] at hn
    rw [show k + ((0 : Nat) : Int) = k by omega] at hn
    simp only [List.length_cons, readE, readS]
    rw [if_pos ha, ho]
    simp only [Option.bind_some, Option.getD_some]
    rw [ih.1, ih.2, hn]
    exact ⟨rfl, rfl⟩

/-- An archive: what the program reads, if it is written so. -/
def aopenD (b : List Int) : Option (List En) :=
  if (allIn 0 255 b && decide (1 ≤ b.length) && decide (b.getD 0 0 ≤ 5) && decide (1 + 2 * b.getD 0 0 ≤ (b.length : Int))) = true then
    (readE b (b.getD 0 0).toNat 0 (1 + 2 * b.getD 0 0)).bind fun es => if archD es = some b then some es else none
  else none

def aopenS (b : List Int) : Option (List En) :=
  if (allIn 0 255 b && decide (1 ≤ b.length)) = true then
    if archD (readS b (min (b.getD 0 0) 5).toNat 0 (1 + 2 * b.getD 0 0)) = some b then some (readS b (min (b.getD 0 0) 5).toNat 0 (1 + 2 * b.getD 0 0)) else none
  else none

theorem arch_read {b : List Int} {es : List En} (h : archD es = some b) : allIn 0 255 b = true ∧ 1 ≤ b.length ∧ b.getD 0 0 ≤ 5 ∧ 1 + 2 * b.getD 0 0 ≤ (b.length : Int) ∧ readE b (b.getD 0 0).toNat 0 (1 + 2 * b.getD 0 0) = some es ∧ readS b (min (b.getD 0 0) 5).toNat 0 (1 + 2 * b.getD 0 0) = es ∧ b.getD 0 0 = es.length := by
  unfold archD at h
  split at h
  · rename_i hok
    cases h
    have h' := entOk_iff.1 hok
    have hb := packE_in hok
    have h1 := indexE_len es
    have e0 : (packE es).getD 0 0 = (es.length : Int) := rfl
    rw [e0]
    have hr := read_back hb es 0 (1 + 2 * (es.length : Int)) [] (by omega) (fun e he => (ent_all h'.1 he).1) (by
      rw [show (1 + 2 * (es.length : Int)).toNat = (indexE es).length + 1 by omega, packE, List.drop_succ_cons, List.drop_left, List.append_nil]) (by simp only [packE, List.length_cons, List.length_append]; omega) (fun j hj => by
      rw [show (1 + 2 * (0 + (j : Int))).toNat = 2 * j + 1 by omega, packE, List.getD_cons_succ]
      exact (indexE_get es _ j hj).1)
    refine ⟨hb, by simp [packE], by omega, by simp only [packE, List.length_cons, List.length_append]; omega, ?_, ?_, rfl⟩
    · rw [show ((es.length : Int)).toNat = es.length by omega]; exact hr.1
    · rw [show (min (es.length : Int) 5).toNat = es.length by omega]; exact hr.2
  · cases h

theorem aopen_iff {b : List Int} {es : List En} : aopenD b = some es ↔ archD es = some b := by
  constructor
  · intro h
    unfold aopenD at h
    split at h
    · cases hr : readE b (b.getD 0 0).toNat 0 (1 + 2 * b.getD 0 0) with
      | none => rw [hr] at h; cases h
      | some es' =>
        rw [hr] at h
        simp only [Option.bind_some] at h
        split at h
        · rename_i q; cases h; exact q
        · cases h
    · cases h
  · intro h
    obtain ⟨h1, h2, h3, h4, h5, h6, h7⟩ := arch_read h
    unfold aopenD
    rw [if_pos (by simp only [Bool.and_eq_true, decide_eq_true_eq]; exact ⟨⟨⟨h1, h2⟩, h3⟩, h4⟩), h5]
    simp only [Option.bind_some, if_pos h]

theorem aopenS_same (b : List Int) : aopenS b = aopenD b := by
  apply Option.ext
  intro es
  rw [aopen_iff]
  constructor
  · intro h
    unfold aopenS at h
    split at h
    · split at h
      · rename_i q; cases h; exact q
      · cases h
    · cases h
  · intro h
    obtain ⟨h1, h2, h3, h4, h5, h6, h7⟩ := arch_read h
    unfold aopenS
    rw [if_pos (by simp only [Bool.and_eq_true, decide_eq_true_eq]; exact ⟨h1, h2⟩), h6, if_pos h]

/-- The list of the first entry with a name. -/
def findE (n : Int) : List En → Option (List Int)
  | [] => none
  | e :: es => if e.1 = n then some e.2 else findE n es

def getD' (b : List Int) (n : Int) : Option (List Int) := (aopenD b).bind (findE n)

theorem find_step {n : Int} {es : List En} {i : Int} (h0 : 0 ≤ i) (h1 : i < (es.length : Int)) : findE n (es.drop i.toNat) = if (es.getD i.toNat (0, [])).1 = n then some (es.getD i.toNat (0, [])).2 else findE n (es.drop (i + 1).toNat) := by
  rw [drop_lt (0, []) h0 h1, findE]

theorem find_end {n : Int} {es : List En} {i : Int} (h : ¬ i < (es.length : Int)) : findE n (es.drop i.toNat) = none := by rw [drop_ge h, findE]

theorem entFrom_lt : ∀ {es : List En} {p : Option Int} {x : En}, entFrom p es = true → x ∈ es → ∀ n, p = some n → n < x.1
  | y :: es, p, x, h, hx, n, hn => by
    subst hn
    simp only [entFrom, Bool.and_eq_true, decide_eq_true_eq] at h
    rcases List.mem_cons.1 hx with q | q
    · subst q; exact h.1.2
    · have := entFrom_lt h.2 q y.1 rfl
      have := h.1.2
      omega

/-- An entry is found by its name. -/
theorem find_mem : ∀ {es : List En} {p : Option Int} {x : En}, entFrom p es = true → x ∈ es → findE x.1 es = some x.2
  | y :: es, p, x, h, hx => by
    rw [findE]
    rcases List.mem_cons.1 hx with q | q
    · subst q; rw [if_pos rfl]
    · simp only [entFrom, Bool.and_eq_true] at h
      have := entFrom_lt h.2 q y.1 rfl
      rw [if_neg (by omega), find_mem h.2 q]

theorem find_some : ∀ {es : List En} {n : Int} {l : List Int}, findE n es = some l → (n, l) ∈ es
  | y :: es, n, l, h => by
    rw [findE] at h
    split at h
    · rename_i q
      cases h
      rw [← q]; exact List.mem_cons_self ..
    · exact List.mem_cons_of_mem _ (find_some h)

/-- How many bytes the index tells. -/
theorem index_same : ∀ {es fs : List En}, indexE es = indexE fs → (blocksE es).length = (blocksE fs).length
  | [], [], _ => rfl
  | [], f :: fs, h => by simp [indexE] at h
  | e :: es, [], h => by simp [indexE] at h
  | e :: es, f :: fs, h => by
    simp only [indexE, List.flatMap_cons, List.cons_append, List.nil_append, List.cons.injEq] at h
    have := index_same (es := es) (fs := fs) h.2.2
    simp only [blocksE, List.flatMap_cons, List.length_append] at this ⊢
    omega

/-- An archive with a byte behind it is none. -/
theorem pack_more {es fs : List En} {x : Int} (h : packE es ++ [x] = packE fs) : False := by
  simp only [packE, List.cons_append, List.cons.injEq, List.append_assoc] at h
  have hl : es.length = fs.length := by omega
  have hi := List.append_inj h.2 (by rw [indexE_len, indexE_len, hl])
  have h1 := index_same hi.1
  have h2 := congrArg List.length hi.2
  simp at h2
  omega

theorem arch_eq {b : List Int} {es : List En} (h : archD es = some b) : packE es = b := by
  unfold archD at h
  split at h
  · exact Option.some.inj h
  · cases h

theorem arch_torn {b : List Int} {es : List En} (h : archD es = some b) (x : Int) : aopenD (b ++ [x]) = none ∧ aopenD b.dropLast = none := by
  have hp := arch_eq h
  constructor
  · cases hc : aopenD (b ++ [x]) with
    | none => rfl
    | some fs => exact (pack_more (es := es) (fs := fs) (x := x) (by rw [hp, arch_eq (aopen_iff.1 hc)])).elim
  · cases hc : aopenD b.dropLast with
    | none => rfl
    | some fs =>
      have hne : b ≠ [] := by rw [← hp]; simp [packE]
      exact (pack_more (es := fs) (fs := es) (x := b.getLast hne) (by rw [hp, arch_eq (aopen_iff.1 hc), List.dropLast_concat_getLast])).elim

end Go.Mx

/-
  M23: steps of blocks.
-/
namespace Go.Mx

theorem blockAs_none {l : List Int} {w : Int} (h : ¬ (0 ≤ w ∧ w ≤ 3)) : blockAs l w = none := by
  cases hb : blockAs l w with
  | none => rfl
  | some x => have := block_facts hb; exact absurd ⟨this.1, this.2.1⟩ h

theorem blockAs_1 {l : List Int} (h : LV l = true) : blockAs l 1 = some (1 :: ((runs l).length : Int) :: flatR (runs l)) := by unfold blockAs; rw [if_pos h]; rfl

theorem blockAs_2 {l : List Int} (h : LV l = true) (hn : ¬ (l.length : Int) = 0) : blockAs l 2 = some (2 :: (l.length : Int) :: (lens4 (lensF l) ++ bytesOf (enc (lensF l) l))) := by
  unfold blockAs; rw [if_pos h, if_neg (by omega), if_neg (by omega), if_pos rfl, if_neg (by omega)]

theorem blockAs_2e {l : List Int} (hn : (l.length : Int) = 0) : blockAs l 2 = none := by
  unfold blockAs
  split
  · rw [if_neg (by omega), if_neg (by omega), if_pos rfl, if_pos (by omega)]
  · rfl

theorem blockAs_3 {l : List Int} (h : LV l = true) : blockAs l 3 = some (3 :: ((parseD l).length : Int) :: (parseD l).map tokByte) := by unfold blockAs; rw [if_pos h]; rfl

theorem encD_list {l : List Int} (hv : LV l = true) (hn : ¬ (l.length : Int) = 0) : lengthsD (countsL l) = some (lensF l) ∧ encD l (lensF l) = some (enc (lensF l) l) ∧ bitsIn (enc (lensF l) l) = true ∧ (enc (lensF l) l).length ≤ 320 ∧ (lensF l).length = 8 ∧ (∀ x ∈ lensF l, 0 ≤ x ∧ x ≤ 8) ∧ ((bytesOf (enc (lensF l) l)).length ≤ 40) := by
  have hne : l ≠ [] := fun q => hn (by rw [q]; rfl)
  obtain ⟨h1, h2, h3⟩ := lensF_ok hv hne
  have hl := LV_len hv
  obtain ⟨e1, e2⟩ := enc_bd h2 (LV_in hv) h3
  have h2' := h2
  simp only [lensOk, Bool.and_eq_true] at h2'
  have h8 := lensIn_iff.1 h2'.1
  have hb := bytesOf_len (enc (lensF l) l)
  refine ⟨h1, if_pos (by rw [hv, h2, h3]; rfl), ?_, by omega, h8.1, h8.2, by omega⟩
  simp only [bitsIn, Bool.and_eq_true, decide_eq_true_eq]
  exact ⟨by omega, e2⟩

theorem lens_step (ls : List Int) {n : Int} (h0 : 0 ≤ n) (h1 : n < 8) (h2 : n % 2 = 0) : (lens4 ls).take ((n + 2) / 2).toNat = (lens4 ls).take (n / 2).toNat ++ [16 * ls.getD n.toNat 0 + ls.getD (n + 1).toNat 0] := by
  have h : n = 0 ∨ n = 2 ∨ n = 4 ∨ n = 6 := by omega
  rcases h with rfl | rfl | rfl | rfl <;> rfl

theorem lens_take (ls : List Int) {n : Int} (h : ¬ n < 8) : (lens4 ls).take (n / 2).toNat = lens4 ls := List.take_of_length_le (by simp only [lens4, List.length_cons, List.length_nil]; omega)

theorem flatR_step {rs : List R2} {i : Int} (h0 : 0 ≤ i) (h1 : i < (rs.length : Int)) : flatR (rs.take (i + 1).toNat) = flatR (rs.take i.toNat) ++ [(rs.getD i.toNat (0, 0)).1, (rs.getD i.toNat (0, 0)).2] := by
  rw [take_lt (0, 0) h0 h1]; simp [flatR]

theorem toks_step {xs : List P3} {i : Int} (h0 : 0 ≤ i) (h1 : i < (xs.length : Int)) : (xs.take (i + 1).toNat).map tokByte = (xs.take i.toNat).map tokByte ++ [tokByte (xs.getD i.toNat (0, 0, 0))] := by
  rw [take_lt (0, 0, 0) h0 h1]; simp

theorem tokByte_at {l : List Int} {i : Int} (h0 : 0 ≤ i) (h1 : i < ((parseD l).length : Int)) : tokFine ((parseD l).getD i.toNat (0, 0, 0)) :=
  parseD_fine l _ (by have : i.toNat < (parseD l).length := by omega
                      simp [List.getD_eq_getElem?_getD, this])

theorem tokByte_sym {x : P3} (h : tokFine x) (h0 : x.2.1 = 0 ∨ x.2.2 = 0) : tokByte x = x.1 := by
  rcases h with ⟨q1, q2, _⟩ | ⟨q1, q2, q3, q4, q5⟩
  · exact if_pos q2
  · omega

theorem tokByte_match {x : P3} (h : tokFine x) (h0 : ¬ x.2.1 = 0 ∨ ¬ x.2.2 = 0) : tokByte x = 128 + 16 * (x.2.2 - 2) + x.2.1 - 1 ∧ 1 ≤ x.2.1 ∧ x.2.1 ≤ 16 ∧ 2 ≤ x.2.2 ∧ x.2.2 ≤ 9 := by
  rcases h with ⟨q1, q2, _⟩ | ⟨q1, q2, q3, q4, q5⟩
  · omega
  · exact ⟨if_neg (by omega), q2, q3, q4, q5⟩

theorem packTo_step (l : List Int) {n : Int} (h0 : 0 ≤ n) : packTo l (n + 1).toNat = shorter (packTo l n.toNat) (blockAs l (n + 1)) := by
  rw [show (n + 1).toNat = n.toNat + 1 by omega, packTo, show ((n.toNat : Nat) : Int) = n by omega]

def sizes4 (l : List Int) : List Int := [sizeAs l 0, sizeAs l 1, sizeAs l 2, sizeAs l 3]

theorem sizes_step (l : List Int) {w : Int} (h0 : 0 ≤ w) (h1 : w ≤ 3) : (sizes4 l).take (w + 1).toNat = (sizes4 l).take w.toNat ++ [sizeAs l w] := by
  have h : w = 0 ∨ w = 1 ∨ w = 2 ∨ w = 3 := by omega
  rcases h with rfl | rfl | rfl | rfl <;> rfl

theorem sizeAs_some {l : List Int} {w : Int} (h : true = (blockAs l w).isSome) : sizeAs l w = ((((blockAs l w).getD []).length : Nat) : Int) := by
  unfold sizeAs
  cases hb : blockAs l w with
  | none => rw [hb] at h; cases h
  | some y => rfl

theorem sizeAs_none {l : List Int} {w : Int} (h : false = (blockAs l w).isSome) : sizeAs l w = -1 := by
  unfold sizeAs
  cases hb : blockAs l w with
  | none => rfl
  | some y => rw [hb] at h; cases h

/-- Symbols that are counted have lengths. -/
def usedOk : List Int → List Int → Bool
  | c :: cs, l :: ls => (decide (c ≤ 0) || decide (0 < l)) && usedOk cs ls
  | _, _ => true

def costL : List Int → List Int → Int
  | c :: cs, l :: ls => c * l + costL cs ls
  | _, _ => 0

theorem used_step {c l : List Int} {i : Int} (h0 : 0 ≤ i) (h1 : i < (c.length : Int)) (h2 : i < (l.length : Int)) : usedOk (c.drop i.toNat) (l.drop i.toNat) = ((decide (c.getD i.toNat 0 ≤ 0) || decide (0 < l.getD i.toNat 0)) && usedOk (c.drop (i + 1).toNat) (l.drop (i + 1).toNat)) := by
  rw [drop_lt 0 h0 h1, drop_lt 0 h0 h2, usedOk]

theorem cost_stepL {c l : List Int} {i : Int} (h0 : 0 ≤ i) (h1 : i < (c.length : Int)) (h2 : i < (l.length : Int)) : costL (c.drop i.toNat) (l.drop i.toNat) = c.getD i.toNat 0 * l.getD i.toNat 0 + costL (c.drop (i + 1).toNat) (l.drop (i + 1).toNat) := by
  rw [drop_lt 0 h0 h1, drop_lt 0 h0 h2, costL]

theorem costL_end {c l : List Int} {i : Int} (h : ¬ i < (c.length : Int)) : costL (c.drop i.toNat) (l.drop i.toNat) = 0 := by
  rw [drop_ge h, costL.eq_def]

/-- The bits of a list are counted by its counts. -/
theorem enc_len {ls : List Int} (h8 : ls.length = 8) : ∀ {l : List Int}, (∀ s ∈ l, 0 ≤ s ∧ s ≤ 7) → encOk ls l = true → ((enc ls l).length : Int) = costL (countsL l) ls
  | [], _, _ => by
    match ls, h8 with
    | [a, b, c, d, e, f, g, i], _ => simp [enc, countsL, cnt, costL]
  | s :: l, hs, hk => by
    simp only [encOk, List.all_cons, Bool.and_eq_true, decide_eq_true_eq] at hk
    have ih := enc_len h8 (l := l) (fun x hx => hs x (List.mem_cons_of_mem _ hx)) hk.2
    have hs0 := hs s (List.mem_cons_self ..)
    have hp := hk.1
    simp only [enc, List.length_append, bitsOf_len]
    have hcase : s = 0 ∨ s = 1 ∨ s = 2 ∨ s = 3 ∨ s = 4 ∨ s = 5 ∨ s = 6 ∨ s = 7 := by omega
    match ls, h8 with
    | [a, b, c, d, e, f, g, i], _ =>
      simp only [countsL, costL, cnt] at ih ⊢
      rcases hcase with r | r | r | r | r | r | r | r <;> subst r <;> simp [Int.add_mul] at hp ih ⊢ <;> omega

theorem used_list {ls : List Int} (h8 : ls.length = 8) {l : List Int} (hk : encOk ls l = true) (hs : ∀ s ∈ l, 0 ≤ s ∧ s ≤ 7) : usedOk (countsL l) ls = true := by
  have key : ∀ s : Int, 0 ≤ s → s ≤ 7 → (decide (cnt s l ≤ 0) || decide (0 < ls.getD s.toNat 0)) = true := fun s h0 h1 => by
    by_cases q : cnt s l ≤ 0
    · simp [q]
    · have hm : s ∈ l := by
        have : ∀ m : List Int, ¬ cnt s m ≤ 0 → s ∈ m := by
          intro m
          induction m with
          | nil => intro h; simp [cnt] at h
          | cons x m ih =>
            intro h
            simp only [cnt] at h
            by_cases e : x = s
            · subst e; exact List.mem_cons_self ..
            · rw [if_neg e] at h; exact List.mem_cons_of_mem _ (ih (by omega))
        exact this l q
      unfold encOk at hk
      have := List.all_eq_true.1 hk s hm
      simp only [Bool.or_eq_true]
      exact .inr this
  match ls, h8 with
  | [a, b, c, d, e, f, g, i], _ =>
    have k0 := key 0 (by omega) (by omega); have k1 := key 1 (by omega) (by omega); have k2 := key 2 (by omega) (by omega); have k3 := key 3 (by omega) (by omega)
    have k4 := key 4 (by omega) (by omega); have k5 := key 5 (by omega) (by omega); have k6 := key 6 (by omega) (by omega); have k7 := key 7 (by omega) (by omega)
    simp only [usedOk, countsL, Bool.and_eq_true]
    exact ⟨k0, k1, k2, k3, k4, k5, k6, k7, trivial⟩

theorem sizes_get (l : List Int) {w : Int} (h0 : 0 ≤ w) (h1 : w ≤ 3) : (sizes4 l).getD w.toNat 0 = sizeAs l w := by
  have h : w = 0 ∨ w = 1 ∨ w = 2 ∨ w = 3 := by omega
  rcases h with rfl | rfl | rfl | rfl <;> rfl

theorem sizes_known {l : List Int} (hv : LV l = true) : sizeAs l 0 = 2 + l.length ∧ sizeAs l 1 = 2 + 2 * ((runsD l).length : Int) ∧ sizeAs l 3 = 2 + ((parseD l).length : Int) ∧ (¬ (l.length : Int) = 0 → sizeAs l 2 = 6 + (((enc (lensF l) l).length : Int) + 7) / 8) := by
  have hD : runsD l = runs l := if_pos hv
  have hb := bytesOf_len (enc (lensF l) l)
  refine ⟨?_, ?_, ?_, fun h => ?_⟩
  · unfold sizeAs; rw [blockAs_0 hv]; simp only [List.length_cons]; omega
  · unfold sizeAs; rw [blockAs_1 hv, hD]; simp only [List.length_cons, flatR_len]; omega
  · unfold sizeAs; rw [blockAs_3 hv]; simp only [List.length_cons, List.length_map]; omega
  · unfold sizeAs; rw [blockAs_2 hv h]; simp only [List.length_cons, List.length_append, lens4, List.length_nil]; omega

theorem sizesD_pos {l : List Int} (h : ¬ ((sizesD l).length : Int) = 0) : LV l = true ∧ sizesD l = sizes4 l := by
  by_cases hv : LV l = true
  · exact ⟨hv, if_pos hv⟩
  · have : sizesD l = [] := if_neg hv
    rw [this] at h; simp at h

/-- The best way's block is the shortest, the first of several. -/
theorem best_sizes {l : List Int} (hv : LV l = true) : 0 ≤ bestD l ∧ bestD l ≤ 3 ∧ sizeAs l (bestD l) = ((packB l).length : Int) ∧ ∀ w, 0 ≤ sizeAs l w → ¬ sizeAs l w < sizeAs l (bestD l) ∧ (w < bestD l → ¬ sizeAs l w = sizeAs l (bestD l)) := by
  obtain ⟨w, w0, w1, w2, w3, w4, w5, w6, w7, w8⟩ := packB_ok hv
  have hb : bestD l = w := by unfold bestD; rw [if_pos hv, w3]
  have hs : sizeAs l w = ((packB l).length : Int) := by unfold sizeAs; rw [w2]
  rw [hb, hs]
  refine ⟨w0, w1, rfl, fun w' h => ?_⟩
  unfold sizeAs at h ⊢
  cases hx : blockAs l w' with
  | none => rw [hx] at h; simp at h
  | some x =>
    have := w4 w' x hx
    exact ⟨by simp only; omega, fun q => by have := this.2 q; simp only; omega⟩

theorem share_ok {l : List Int} (hv : LV l = true) : 1 ≤ shareD l ∧ shareD l ≤ 100 ∧ 100 * ((packB l).length : Int) ≤ shareD l * ((l.length : Int) + 2) ∧ (shareD l - 1) * ((l.length : Int) + 2) < 100 * ((packB l).length : Int) ∧ shareD l * ((l.length : Int) + 2) ≤ 10000 ∧ 0 ≤ (shareD l - 1) * ((l.length : Int) + 2) := by
  obtain ⟨w, w0, w1, w2, w3, w4, w5, w6, w7, w8⟩ := packB_ok hv
  have hl := LV_len hv
  have hD : shareD l = (100 * ((packB l).length : Int) + ((l.length : Int) + 2) - 1) / ((l.length : Int) + 2) := if_pos hv
  have h1 := Int.mul_ediv_add_emod (100 * ((packB l).length : Int) + ((l.length : Int) + 2) - 1) ((l.length : Int) + 2)
  have h2 := Int.emod_nonneg (100 * ((packB l).length : Int) + ((l.length : Int) + 2) - 1) (show ((l.length : Int) + 2) ≠ 0 by omega)
  have h3 := Int.emod_lt_of_pos (100 * ((packB l).length : Int) + ((l.length : Int) + 2) - 1) (show 0 < ((l.length : Int) + 2) by omega)
  rw [← hD, Int.mul_comm] at h1
  rw [Int.sub_mul, Int.one_mul]
  generalize (100 * ((packB l).length : Int) + ((l.length : Int) + 2) - 1) % ((l.length : Int) + 2) = r at *
  generalize shareD l = q at *
  have hq1 : 1 ≤ q := by
    by_cases h : 1 ≤ q
    · exact h
    · have := Int.mul_le_mul_of_nonneg_right (show q ≤ 0 by omega) (show 0 ≤ (l.length : Int) + 2 by omega)
      omega
  have hq2 : q ≤ 100 := by
    by_cases h : q ≤ 100
    · exact h
    · have := Int.mul_le_mul_of_nonneg_right (show 101 ≤ q by omega) (show 0 ≤ (l.length : Int) + 2 by omega)
      omega
  have h5 := Int.mul_le_mul_of_nonneg_right hq1 (show 0 ≤ (l.length : Int) + 2 by omega)
  exact ⟨hq1, hq2, by omega, by omega, by omega, by omega⟩

theorem share_low (l : List Int) : -1 ≤ shareD l := by
  by_cases hv : LV l = true
  · have := (share_ok hv).1; omega
  · have : shareD l = -1 := if_neg hv
    omega

theorem best_low (l : List Int) : -1 ≤ bestD l := by
  by_cases hv : LV l = true
  · have := (best_sizes hv).1; omega
  · have : bestD l = -1 := if_neg hv
    omega

theorem runs_rep (s : Int) : ∀ n : Nat, runs (List.replicate (n + 1) s) = [(s, (n : Int) + 1)]
  | 0 => rfl
  | n + 1 => by
    rw [List.replicate_succ', runs_snoc, runs_rep s n]
    show runsAdd ([] ++ [(s, (n : Int) + 1)]) s = _
    rw [runsAdd_last, if_pos rfl]
    simp

theorem pack_rep {s : Int} {n : Nat} (h0 : 0 ≤ s) (h7 : s ≤ 7) (hn : n + 1 ≤ 40) : LV (List.replicate (n + 1) s) = true ∧ sizeAs (List.replicate (n + 1) s) 1 = 4 ∧ (packB (List.replicate (n + 1) s)).length ≤ 4 := by
  have hv : LV (List.replicate (n + 1) s) = true := LV_iff.2 ⟨by simp; omega, fun x hx => by have := List.eq_of_mem_replicate hx; omega⟩
  have hb := blockAs_1 hv
  rw [runs_rep] at hb
  obtain ⟨w, w0, w1, w2, w3, w4, w5, w6, w7, w8⟩ := packB_ok hv
  refine ⟨hv, ?_, ?_⟩
  · unfold sizeAs; rw [hb]; rfl
  · have := (w4 1 _ hb).1
    simpa [flatR] using this

theorem empty_sizes : sizesD [] = [2, 2, -1, 2] ∧ shareD [] = 100 ∧ bestD [] = 0 := by decide +kernel

end Go.Mx

/-
  M24: steps of opening blocks.
-/
namespace Go.Mx

/-- The symbol of the run before a place. -/
def prevR (rs : List R2) (i : Int) : Option Int := if 0 < i then some (rs.getD (i - 1).toNat (0, 0)).1 else none

theorem join_step {rs : List R2} {i : Int} {a : List Int} (h0 : 0 ≤ i) (h1 : i < (rs.length : Int)) : joinFrom (rs.drop i.toNat) (prevR rs i) a =
    if (0 ≤ (rs.getD i.toNat (0, 0)).1 ∧ (rs.getD i.toNat (0, 0)).1 ≤ 7) ∧ (1 ≤ (rs.getD i.toNat (0, 0)).2 ∧ (rs.getD i.toNat (0, 0)).2 ≤ 40 - (a.length : Int)) ∧ prevR rs i ≠ some (rs.getD i.toNat (0, 0)).1 then
      joinFrom (rs.drop (i + 1).toNat) (prevR rs (i + 1)) (a ++ List.replicate (rs.getD i.toNat (0, 0)).2.toNat (rs.getD i.toNat (0, 0)).1) else none := by
  have e : prevR rs (i + 1) = some (rs.getD i.toNat (0, 0)).1 := by
    unfold prevR; rw [if_pos (by omega), show i + 1 - 1 = i by omega]
  rw [drop_lt (0, 0) h0 h1, joinFrom, e]

theorem prevR_ne {rs : List R2} {i s : Int} (hp : 0 < i) (hne : ¬ (rs.getD (i - 1).toNat (0, 0)).1 = s) : prevR rs i ≠ some s := by
  unfold prevR; rw [if_pos hp]; intro q; exact hne (Option.some.inj q)

theorem prevR_eq {rs : List R2} {i s : Int} (hp : 0 < i) (he : (rs.getD (i - 1).toNat (0, 0)).1 = s) : prevR rs i = some s := by
  unfold prevR; rw [if_pos hp, he]

theorem prevR_no {rs : List R2} {i s : Int} (hp : ¬ 0 < i) : prevR rs i ≠ some s := by
  unfold prevR; rw [if_neg hp]; simp

theorem rep_step {s k n : Int} {q o : List Int} (h0 : 0 ≤ k) (h1 : k < n) (h : q ++ List.replicate (n - k).toNat s = o ++ List.replicate n.toNat s) : (q ++ [s]) ++ List.replicate (n - (k + 1)).toNat s = o ++ List.replicate n.toNat s := by
  rw [← h, show (n - k).toNat = (n - (k + 1)).toNat + 1 by omega, List.replicate_succ]; simp

theorem unflat_step : ∀ (i : Nat) (r : List Int), 2 * i + 1 < r.length → unflat (i + 1) r = unflat i r ++ [(r.getD (2 * i) 0, r.getD (2 * i + 1) 0)]
  | 0, a :: b :: r, _ => by simp [unflat]
  | i + 1, a :: b :: r, h => by
    have ih := unflat_step i r (by simp at h; omega)
    rw [unflat, ih, unflat, show 2 * (i + 1) + 1 = 2 * i + 1 + 1 + 1 by omega, show 2 * (i + 1) = 2 * i + 1 + 1 by omega]
    simp
  | 0, [], h => by simp at h
  | 0, [_], h => by simp at h
  | i + 1, [], h => by simp at h
  | i + 1, [_], h => by simp at h

theorem unflat_stop : ∀ (i n : Nat) (r : List Int), i ≤ n → r.length ≤ 2 * i + 1 → 2 * i ≤ r.length → unflat n r = unflat i r
  | 0, n, r, h1, h2, h3 => by
    match n, r, h2 with
    | 0, r, _ => rfl
    | n + 1, [], _ => rfl
    | n + 1, [_], _ => rfl
  | i + 1, n, a :: b :: r, h1, h2, h3 => by
    obtain ⟨m, rfl⟩ : ∃ m, n = m + 1 := ⟨n - 1, by omega⟩
    rw [unflat, unflat, unflat_stop i m r (by omega) (by simp at h2; omega) (by simp at h3; omega)]
  | i + 1, n, [], h1, h2, h3 => by simp at h3
  | i + 1, n, [_], h1, h2, h3 => by simp at h3; omega

theorem unflat_len : ∀ (n : Nat) (r : List Int), (unflat n r).length ≤ r.length
  | 0, r => by simp [unflat]
  | n + 1, [] => by simp [unflat]
  | n + 1, [_] => by simp [unflat]
  | n + 1, a :: b :: r => by have := unflat_len n r; simp [unflat]; omega

theorem drop2_get (b : List Int) (k : Nat) : (b.drop 2).getD k 0 = b.getD (2 + k) 0 := by simp [List.getD_eq_getElem?_getD, List.getElem?_drop]

theorem unlens_step {b : List Int} {i : Int} (h0 : 0 ≤ i) (h1 : i < (b.length : Int)) : unlens (b.take (i + 1).toNat) = unlens (b.take i.toNat) ++ [b.getD i.toNat 0 / 16, b.getD i.toNat 0 % 16] := by
  rw [take_lt 0 h0 h1]; simp [unlens]

theorem unlens_len (b : List Int) : (unlens b).length = 2 * b.length := by
  induction b with
  | nil => rfl
  | cons x b ih => simp only [unlens, List.flatMap_cons, List.length_append, List.length_cons, List.length_nil] at ih ⊢; omega

theorem byteTok_step {b : List Int} {i : Int} (h0 : 0 ≤ i) (h1 : i < (b.length : Int)) : (b.take (i + 1).toNat).map byteTok = (b.take i.toNat).map byteTok ++ [byteTok (b.getD i.toNat 0)] := by
  rw [take_lt 0 h0 h1]; simp

theorem bitsB_step {b : List Int} {i : Int} (h0 : 0 ≤ i) (h1 : i < (b.length : Int)) : bitsB (b.take (i + 1).toNat) = bitsB (b.take i.toNat) ++ bitsOf 8 (b.getD i.toNat 0) := by
  rw [take_lt 0 h0 h1, bitsB_append]; simp [bitsB]

theorem dec_len (ls bits : List Int) : ∀ (n : Nat) (a : Int) (r : List Int × Int), decN ls bits n a = some r → r.1.length = n
  | 0, a, r, h => by cases h; rfl
  | n + 1, a, r, h => by
    rw [decN] at h
    split at h
    · cases h
    · cases hd : decN ls bits n (a + ls.getD (symAt ls bits a).toNat 0) with
      | none => rw [hd] at h; cases h
      | some r' =>
        rw [hd] at h
        cases h
        have := dec_len ls bits n _ r' hd
        simp [this]

theorem decD_len {bits ls : List Int} {m : Int} {r : List Int × Int} (h : decD bits ls m = some r) : r.1.length ≤ 40 := by
  unfold decD at h
  split at h
  · rename_i hc
    simp only [Bool.and_eq_true, decide_eq_true_eq] at hc
    have := dec_len _ _ _ _ _ h
    omega
  · cases h

theorem joinD_len {rs : List R2} {r : List Int} (h : joinD rs = some r) : r.length ≤ 40 := joinFrom_len h (by simp)

theorem listD_len {b l : List Int} (h : listD b = some l) : l.length ≤ max b.length 40 := by
  unfold listD at h
  split at h
  · split at h
    · cases h
    · cases h; simp; omega
  split at h
  · split at h
    · cases h
    · have := joinD_len h; omega
  split at h
  · split at h
    · cases h
    · obtain ⟨r, hr, rfl⟩ := Option.map_eq_some_iff.1 h
      have := decD_len hr; omega
  split at h
  · split at h
    · cases h
    · have := expand_len h (by simp); omega
  · cases h

theorem listS_len {b l : List Int} (h : listS b = some l) : l.length ≤ max b.length 40 := by
  unfold listS at h
  split at h
  · cases h; simp; omega
  split at h
  · have := joinD_len h; omega
  split at h
  · obtain ⟨r, hr, rfl⟩ := Option.map_eq_some_iff.1 h
    have := decD_len hr; omega
  split at h
  · have := expand_len h (by simp); omega
  · cases h

theorem openD_bad {b : List Int} (h : false = allIn 0 255 b) : openD b = none := if_neg (by rw [← h]; simp)

theorem openD_short {b : List Int} (h : (b.length : Int) < 2) : openD b = none := if_neg (fun q => by simp only [Bool.and_eq_true, decide_eq_true_eq] at q; omega)

theorem openD_def {b : List Int} (h : true = allIn 0 255 b) (h2 : ¬ (b.length : Int) < 2) : openD b = blockOf (listD b) b := if_pos (by rw [← h, decide_eq_true (show 2 ≤ b.length by omega)]; rfl)

theorem openD_nn {b l : List Int} {n : Int} (h : openD b = some (l, n)) : listS b = some l ∧ 2 ≤ n ∧ n ≤ (b.length : Int) ∧ l.length ≤ 40 := by
  obtain ⟨h1, x, w, h2, h3, h4, h5⟩ := openD_iff.1 h
  have hf := block_facts h2
  exact ⟨(block_begin h1 h2 h4).2.1, by omega, by omega, LV_len hf.2.2.2.2.2.2⟩

/-- How many bytes the block at the beginning has, or -1. -/
def blockLen (b : List Int) : Int := ((openD b).map fun r => r.2).getD (-1)

theorem none_of {α : Type} {o : Option α} (h : false = o.isSome) : o = none := by
  cases o with
  | none => rfl
  | some x => cases h

theorem some_of {α : Type} {o : Option α} (h : true = o.isSome) : ∃ x, o = some x := Option.isSome_iff_exists.1 h.symm

theorem map_fst {o : Option (List Int × Int)} {b : Bool} {l : List Int} {n : Int} (h : b = o.isSome ∧ (l, n) = o.getD ([], 0)) : b = (o.map fun r => r.1).isSome ∧ l = (o.map fun r => r.1).getD [] := by
  cases o with
  | none => exact ⟨h.1, congrArg Prod.fst h.2⟩
  | some x => exact ⟨h.1, congrArg Prod.fst h.2⟩

end Go.Mx

/-
  M25: steps of archives.
-/
namespace Go.Mx

theorem indexE_step {es : List En} {i : Int} (h0 : 0 ≤ i) (h1 : i < (es.length : Int)) : indexE (es.take (i + 1).toNat) = indexE (es.take i.toNat) ++ [(es.getD i.toNat (0, [])).1, ((packB (es.getD i.toNat (0, [])).2).length : Int)] := by
  rw [take_lt (0, []) h0 h1, indexE_append]; simp [indexE]

theorem blocksE_step {es : List En} {i : Int} (h0 : 0 ≤ i) (h1 : i < (es.length : Int)) : blocksE (es.take (i + 1).toNat) = blocksE (es.take i.toNat) ++ packB (es.getD i.toNat (0, [])).2 := by
  rw [take_lt (0, []) h0 h1, blocksE_append]; simp [blocksE]

theorem ent_at {es : List En} (h : entOk es = true) {i : Int} (h0 : 0 ≤ i) (h1 : i < (es.length : Int)) : LV (es.getD i.toNat (0, [])).2 = true ∧ 1 ≤ (es.getD i.toNat (0, [])).1 ∧ (es.getD i.toNat (0, [])).1 ≤ 20 := by
  have : i.toNat < es.length := by omega
  exact ent_all (entOk_iff.1 h).1 (by simp [List.getD_eq_getElem?_getD, this])

theorem szE_small {es : List En} (h : ∀ x ∈ es, x.2.length ≤ 40) : szE es ≤ 41 * es.length := by
  induction es with
  | nil => simp [szE, sumIn]
  | cons x es ih =>
    have h1 := h x (List.mem_cons_self ..)
    have h2 := ih (fun y hy => h y (List.mem_cons_of_mem _ hy))
    unfold szE at h2 ⊢
    simp only [sumIn, List.length_cons]
    omega

theorem aopen_facts {b : List Int} {es : List En} (h : aopenD b = some es) : entOk es = true ∧ packE es = b ∧ (∀ x ∈ es, x.2.length ≤ 40) ∧ szE es ≤ 205 ∧ es.length ≤ 5 := by
  have ha := aopen_iff.1 h
  have hp := arch_eq ha
  have hok : entOk es = true := by
    unfold archD at ha
    split at ha
    · assumption
    · cases ha
  have h' := entOk_iff.1 hok
  have hl : ∀ x ∈ es, x.2.length ≤ 40 := fun x hx => LV_len (ent_all h'.1 hx).1
  have := szE_small hl
  exact ⟨hok, hp, hl, by omega, h'.2⟩

theorem open_get (b : List Int) : ((openD b).getD ([], 0)).1.length ≤ 40 ∧ 0 ≤ ((openD b).getD ([], 0)).2 ∧ ((openD b).getD ([], 0)).2 ≤ (b.length : Int) := by
  cases ho : openD b with
  | none => simp
  | some p =>
    obtain ⟨l, n⟩ := p
    obtain ⟨q1, q2, q3, q4⟩ := openD_nn ho
    exact ⟨q4, by simp only [Option.getD_some]; omega, q3⟩

theorem readS_small (b : List Int) : ∀ (n : Nat) (k a : Int), (∀ x ∈ readS b n k a, x.2.length ≤ 40) ∧ (readS b n k a).length ≤ n
  | 0, k, a => by simp [readS]
  | n + 1, k, a => by
    rw [readS]
    split
    · obtain ⟨h1, h2⟩ := readS_small b n (k + 1) (a + ((openD (b.drop a.toNat)).getD ([], 0)).2)
      refine ⟨fun x hx => ?_, by simp; omega⟩
      rcases List.mem_cons.1 hx with q | q
      · subst q; exact (open_get _).1
      · exact h1 x q
    · simp

theorem readS_out {b : List Int} {n : Nat} {k a : Int} (h : ¬ a ≤ (b.length : Int)) : readS b n k a = [] := by
  cases n with
  | zero => rfl
  | succ n => rw [readS, if_neg h]

theorem getD'_some {b : List Int} {n : Int} {es : List En} (h : aopenD b = some es) : getD' b n = findE n es := by unfold getD'; rw [h]; rfl

theorem getD'_none {b : List Int} {n : Int} (h : aopenD b = none) : getD' b n = none := by unfold getD'; rw [h]; rfl

theorem getD'_len {b : List Int} {n : Int} {l : List Int} (h : getD' b n = some l) : l.length ≤ 40 := by
  unfold getD' at h
  cases ho : aopenD b with
  | none => rw [ho] at h; cases h
  | some es =>
    rw [ho] at h
    exact (aopen_facts ho).2.2.1 _ (find_some h)

theorem archD_len (es : List En) : ((archD es).getD []).length ≤ 221 := by
  unfold archD
  split
  · rename_i h; exact packE_len h
  · simp

/-- What the index tells of the i-th entry. -/
theorem packE_get {es : List En} {i : Int} (h0 : 0 ≤ i) (h1 : i < (es.length : Int)) : (packE es).getD (1 + 2 * i).toNat 0 = (es.getD i.toNat (0, [])).1 ∧ (packE es).getD (2 + 2 * i).toNat 0 = ((packB (es.getD i.toNat (0, [])).2).length : Int) ∧ 2 + 2 * i < ((packE es).length : Int) := by
  obtain ⟨h2, h3⟩ := indexE_get es (blocksE es) i.toNat (by omega)
  have hl := indexE_len es
  refine ⟨?_, ?_, ?_⟩
  · rw [show (1 + 2 * i).toNat = 2 * i.toNat + 1 by omega, packE, List.getD_cons_succ]; exact h2
  · rw [show (2 + 2 * i).toNat = 2 * i.toNat + 1 + 1 by omega, packE, List.getD_cons_succ]; exact h3
  · simp only [packE, List.length_cons, List.length_append]; omega

theorem blocksE_lenStep {es : List En} {i : Int} (h0 : 0 ≤ i) (h1 : i < (es.length : Int)) : ((blocksE (es.take (i + 1).toNat)).length : Int) = (blocksE (es.take i.toNat)).length + (packB (es.getD i.toNat (0, [])).2).length := by
  rw [blocksE_step h0 h1, List.length_append]; omega

theorem entOk_nil : entOk [] = true := rfl
theorem arch_nil : archD [] = some [0] := rfl
theorem open_nil : aopenD [0] = some [] := aopen_iff.2 arch_nil

end Go.Mx

/-
  M26: how many bytes a block needs, as far as they tell it; blocks, parts of blocks, and what is none.
-/
namespace Go.Mx

/-- What a block with codes needs: L bytes are there; -1: no more can help. -/
def walkB (ls bits : List Int) (L : Int) : Nat → Int → Int
  | 0, a => 6 + (a + 7) / 8
  | n + 1, a => if symAt ls bits a < 0 then (if a + 8 ≤ (bits.length : Int) then -1 else L + 1) else walkB ls bits L n (a + ls.getD (symAt ls bits a).toNat 0)

def needP (b : List Int) : Int :=
  if b.length < 6 then 6
  else if lensOk (unlens ((b.drop 2).take 4)) = true then walkB (unlens ((b.drop 2).take 4)) (bitsB ((b.drop 6).take 75)) b.length (b.getD 1 0).toNat 0
  else -1

/-- How many bytes a block needs, -1 if no more can help. -/
def needD (b : List Int) : Int :=
  if b.length = 0 then 2
  else if 3 < b.getD 0 0 then -1
  else if b.length < 2 then 2
  else if 40 < b.getD 1 0 ∨ (b.getD 0 0 = 2 ∧ b.getD 1 0 = 0) then -1
  else if b.getD 0 0 = 1 then 2 + 2 * b.getD 1 0
  else if b.getD 0 0 = 2 then needP b
  else 2 + b.getD 1 0

/-- 1: a block; 0: bytes are missing; 2: none. -/
def stateB (b : List Int) : Int :=
  if allIn 0 255 b = true then
    if needD b < 0 then 2 else if (b.length : Int) < needD b then 0 else if (openD b).isSome = true then 1 else 2
  else 2

theorem lens_bd {ls : List Int} (h : lensOk ls = true) {s : Int} (h0 : 0 ≤ s) (h1 : s ≤ 7) : 0 ≤ ls.getD s.toNat 0 ∧ ls.getD s.toNat 0 ≤ 8 := by
  simp only [lensOk, Bool.and_eq_true] at h
  have h' := lensIn_iff.1 h.1
  exact h'.2 _ (at_mem h0 (by omega))

theorem walk_more {ls : List Int} (h : lensOk ls = true) {bits more : List Int} (hx : allIn 0 1 (bits ++ more) = true) {L L' : Int} (hL : 0 ≤ L) : ∀ (n : Nat) (a : Int), 0 ≤ a → (walkB ls bits L n a < 0 ∨ walkB ls bits L n a ≤ L) → walkB ls (bits ++ more) L' n a = walkB ls bits L n a
  | 0, a, h0, hr => rfl
  | n + 1, a, h0, hr => by
    simp only [walkB] at hr ⊢
    by_cases q : symAt ls bits a < 0
    · rw [if_pos q] at hr ⊢
      by_cases q2 : a + 8 ≤ (bits.length : Int)
      · rw [if_pos q2, if_pos (sym_none h h0 q2 q), if_pos (by rw [List.length_append]; omega)]
      · rw [if_neg q2] at hr; omega
    · rw [if_neg q] at hr ⊢
      have hm := sym_more h hx h0 (by omega)
      rw [hm, if_neg q]
      rcases symAt_cases ls bits a with ⟨q1, _⟩ | ⟨q1, q2, _⟩
      · omega
      · have := lens_bd h q1 q2
        exact walk_more h hx hL n _ (by omega) hr

/-- Codes of 40 symbols lie in the first 40 bytes. -/
theorem walk_cut {ls : List Int} (h : lensOk ls = true) {X : List Int} (hX : allIn 0 255 X = true) {L : Int} : ∀ (n : Nat) (a : Int), 0 ≤ a → a + 8 * n ≤ 320 → walkB ls (bitsB (X.take 40)) L n a = walkB ls (bitsB (X.take 75)) L n a := by
  by_cases hl : X.length ≤ 40
  · intro n a _ _
    rw [List.take_of_length_le hl, List.take_of_length_le (by omega)]
  · have e : X.take 75 = X.take 40 ++ (X.drop 40).take 35 := by
      rw [show 75 = 40 + 35 by rfl, List.take_add]
    have hb : bitsB (X.take 75) = bitsB (X.take 40) ++ bitsB ((X.drop 40).take 35) := by rw [e, bitsB_append]
    have hin : allIn 0 1 (bitsB (X.take 40) ++ bitsB ((X.drop 40).take 35)) = true := by rw [← hb]; exact bitsB_in (allIn_take 75 hX)
    have h320 : ((bitsB (X.take 40)).length : Int) = 320 := by rw [bitsB_len, List.length_take]; omega
    rw [hb]
    intro n
    induction n with
    | zero => intro a _ _; rfl
    | succ n ih =>
      intro a h0 h1
      simp only [walkB]
      by_cases q : symAt ls (bitsB (X.take 40)) a < 0
      · rw [if_pos q, if_pos (by omega), if_pos (sym_none h h0 (by omega) q), if_pos (by rw [List.length_append]; omega)]
      · rw [if_neg q, sym_more h hin h0 (by omega), if_neg q]
        rcases symAt_cases ls (bitsB (X.take 40)) a with ⟨q1, _⟩ | ⟨q1, q2, _⟩
        · omega
        · have := lens_bd h q1 q2
          exact ih _ (by omega) (by omega)

theorem walk_dec {ls bits : List Int} {L : Int} : ∀ (n : Nat) (a : Int) (r : List Int × Int), decN ls bits n a = some r → walkB ls bits L n a = 6 + (r.2 + 7) / 8
  | 0, a, r, h => by cases h; rfl
  | n + 1, a, r, h => by
    rw [decN] at h
    split at h
    · cases h
    · rename_i q
      cases hd : decN ls bits n (a + ls.getD (symAt ls bits a).toNat 0) with
      | none => rw [hd] at h; cases h
      | some r' =>
        rw [hd] at h
        cases h
        rw [walkB, if_neg q]
        exact walk_dec n _ r' hd

theorem walk_nn {ls bits : List Int} (h : lensOk ls = true) {L : Int} (hL : 0 ≤ L) : ∀ (n : Nat) (a : Int), 0 ≤ a → walkB ls bits L n a = -1 ∨ 0 ≤ walkB ls bits L n a
  | 0, a, h0 => .inr (by simp only [walkB]; omega)
  | n + 1, a, h0 => by
    simp only [walkB]
    by_cases q : symAt ls bits a < 0
    · rw [if_pos q]
      by_cases q2 : a + 8 ≤ (bits.length : Int)
      · rw [if_pos q2]; exact .inl rfl
      · rw [if_neg q2]; exact .inr (by omega)
    · rw [if_neg q]
      rcases symAt_cases ls bits a with ⟨q1, _⟩ | ⟨q1, q2, _⟩
      · omega
      · have := lens_bd h q1 q2
        exact walk_nn h hL n _ (by omega)

/-- A block needs what it has. -/
theorem need_block {l x more : List Int} {w : Int} (h : blockAs l w = some x) (hm : allIn 0 255 more = true) : needD (x ++ more) = x.length := by
  have hv := block_valid h
  have hl := LV_len hv
  unfold blockAs at h
  rw [if_pos hv] at h
  by_cases w0 : w = 0
  · rw [if_pos w0] at h
    cases h
    simp only [needD, List.cons_append, List.getD_cons_zero, List.getD_cons_succ, List.length_cons]
    rw [if_neg (by omega), if_neg (by omega), if_neg (by omega), if_neg (by omega), if_neg (by omega), if_neg (by omega)]
    omega
  rw [if_neg w0] at h
  by_cases w1 : w = 1
  · rw [if_pos w1] at h
    cases h
    have hr := runs_len l
    have hf := flatR_len (runs l)
    simp only [needD, List.cons_append, List.getD_cons_zero, List.getD_cons_succ, List.length_cons]
    rw [if_neg (by omega), if_neg (by omega), if_neg (by omega), if_neg (by omega), if_pos trivial]
    omega
  rw [if_neg w1] at h
  by_cases w2 : w = 2
  · rw [if_pos w2] at h
    split at h
    · cases h
    · rename_i hne0
      cases h
      have hne : l ≠ [] := fun q => hne0 (by rw [q]; rfl)
      obtain ⟨h1, h2, h3⟩ := lensF_ok hv hne
      have e1 : (lens4 (lensF l) ++ (bytesOf (enc (lensF l) l) ++ more)).take 4 = lens4 (lensF l) := List.take_left' rfl
      have e2 : (lens4 (lensF l) ++ (bytesOf (enc (lensF l) l) ++ more)).drop 4 = bytesOf (enc (lensF l) l) ++ more := List.drop_left' rfl
      have e3 := (unlens_lens4 h2).1
      have hd := enc_bytes hv hne more hm 75 (by omega) (by omega)
      have hbl := bytesOf_len (enc (lensF l) l)
      have hl4 : (lens4 (lensF l)).length = 4 := rfl
      have hlen : (lens4 (lensF l) ++ (bytesOf (enc (lensF l) l) ++ more)).length = 4 + ((bytesOf (enc (lensF l) l)).length + more.length) := by rw [List.length_append, List.length_append, hl4]
      have hdec : decN (lensF l) (bitsB ((bytesOf (enc (lensF l) l) ++ more).take 75)) l.length 0 = some (l, ((enc (lensF l) l).length : Int)) := by
        unfold decD at hd
        split at hd
        · simpa using hd
        · cases hd
      simp only [needD, needP, List.cons_append, List.getD_cons_zero, List.getD_cons_succ, List.length_cons, List.append_assoc, List.drop_succ_cons, List.drop_zero, e1, e2, e3, hlen]
      rw [if_neg (by omega), if_neg (by omega), if_neg (by omega), if_neg (by omega), if_neg (by omega), if_pos trivial, if_neg (by omega), if_pos h2]
      rw [show ((l.length : Int)).toNat = l.length by omega, walk_dec _ _ _ hdec]
      simp only [List.length_append, hl4]
      omega
  rw [if_neg w2] at h
  by_cases w3 : w = 3
  · rw [if_pos w3] at h
    cases h
    have hp := parseD_len l
    simp only [needD, List.cons_append, List.getD_cons_zero, List.getD_cons_succ, List.length_cons, List.length_map]
    rw [if_neg (by omega), if_neg (by omega), if_neg (by omega), if_neg (by omega), if_neg (by omega), if_neg (by omega)]
    omega
  · rw [if_neg w3] at h; cases h

theorem open_need {b l : List Int} {n : Int} (h : openD b = some (l, n)) : needD b = n ∧ ∀ c, allIn 0 255 c = true → openD (b ++ c) = some (l, n) := by
  obtain ⟨h1, x, w, h2, h3, h4, h5⟩ := openD_iff.1 h
  have e : x ++ b.drop x.length = b := by
    have := List.take_append_drop x.length b
    rw [← h4] at this
    exact this
  have hd := allIn_drop x.length h1
  have hn := need_block h2 hd
  rw [e] at hn
  refine ⟨by omega, fun c hc => ?_⟩
  have ho := open_block h2 (more := b.drop x.length ++ c) (allIn_append.2 ⟨hd, hc⟩)
  rw [← List.append_assoc, e] at ho
  rw [ho, h5]

theorem getD_app {b c : List Int} {k : Nat} (h : k < b.length) : (b ++ c).getD k 0 = b.getD k 0 := by
  simp [List.getD_eq_getElem?_getD, List.getElem?_append_left h]

/-- What is needed is the same with more bytes, if enough are there or none can help. -/
theorem need_more {b c : List Int} (hb : allIn 0 255 (b ++ c) = true) (h : needD b < 0 ∨ needD b ≤ (b.length : Int)) : needD (b ++ c) = needD b := by
  unfold needD at h ⊢
  by_cases l0 : b.length = 0
  · rw [if_pos l0] at h; omega
  rw [if_neg l0] at h ⊢
  rw [if_neg (by rw [List.length_append]; omega), getD_app (by omega)]
  by_cases k0 : 3 < b.getD 0 0
  · rw [if_pos k0, if_pos k0]
  rw [if_neg k0] at h
  rw [if_neg k0, if_neg k0]
  by_cases l2 : b.length < 2
  · rw [if_pos l2] at h; omega
  rw [if_neg l2] at h
  rw [if_neg l2, if_neg (by rw [List.length_append]; omega), getD_app (by omega)]
  by_cases k1 : 40 < b.getD 1 0 ∨ (b.getD 0 0 = 2 ∧ b.getD 1 0 = 0)
  · rw [if_pos k1, if_pos k1]
  rw [if_neg k1] at h
  rw [if_neg k1, if_neg k1]
  by_cases w1 : b.getD 0 0 = 1
  · rw [if_pos w1, if_pos w1]
  rw [if_neg w1] at h
  rw [if_neg w1, if_neg w1]
  by_cases w2 : b.getD 0 0 = 2
  · rw [if_pos w2] at h
    rw [if_pos w2, if_pos w2]
    unfold needP at h ⊢
    by_cases l6 : b.length < 6
    · rw [if_pos l6] at h; omega
    rw [if_neg l6] at h
    rw [if_neg l6, if_neg (by rw [List.length_append]; omega), getD_app (by omega)]
    have e1 : ((b ++ c).drop 2).take 4 = (b.drop 2).take 4 := by
      rw [List.drop_append_of_le_length (by omega), List.take_append_of_le_length (by rw [List.length_drop]; omega)]
    rw [e1]
    by_cases hk : lensOk (unlens ((b.drop 2).take 4)) = true
    · rw [if_pos hk] at h
      rw [if_pos hk, if_pos hk]
      have e2 : ((b ++ c).drop 6).take 75 = (b.drop 6).take 75 ++ c.take (75 - (b.drop 6).length) := by
        rw [List.drop_append_of_le_length (by omega), List.take_append]
      have e3 : bitsB (((b ++ c).drop 6).take 75) = bitsB ((b.drop 6).take 75) ++ bitsB (c.take (75 - (b.drop 6).length)) := by rw [e2, bitsB_append]
      have hin : allIn 0 1 (bitsB (((b ++ c).drop 6).take 75)) = true := bitsB_in (allIn_take 75 (allIn_drop 6 hb))
      rw [e3] at hin ⊢
      exact walk_more hk hin (by omega) _ _ (by omega) h
    · rw [if_neg hk, if_neg hk]
  · rw [if_neg w2, if_neg w2]

theorem state_cases (b : List Int) : stateB b = 0 ∨ stateB b = 1 ∨ stateB b = 2 := by
  unfold stateB
  split
  · split
    · exact .inr (.inr rfl)
    · split
      · exact .inl rfl
      · split
        · exact .inr (.inl rfl)
        · exact .inr (.inr rfl)
  · exact .inr (.inr rfl)

theorem state1 {b : List Int} : stateB b = 1 ↔ ∃ l n, openD b = some (l, n) := by
  constructor
  · intro h
    unfold stateB at h
    split at h
    · split at h
      · cases h
      · split at h
        · cases h
        · split at h
          · rename_i q
            obtain ⟨⟨l, n⟩, hx⟩ := Option.isSome_iff_exists.1 q
            exact ⟨l, n, hx⟩
          · cases h
    · cases h
  · rintro ⟨l, n, h⟩
    obtain ⟨q1, q2, q3, q4⟩ := openD_nn h
    have hn := (open_need h).1
    unfold stateB
    rw [if_pos (openD_iff.1 h).1, if_neg (by omega), if_neg (by omega), h]
    rfl

theorem state_ok {b : List Int} (h : ¬ stateB b = 2) : allIn 0 255 b = true := by
  by_cases q : allIn 0 255 b = true
  · exact q
  · exact absurd (if_neg q) h

/-- A bad beginning stays bad. -/
theorem state2_more {b c : List Int} (hb : allIn 0 255 b = true) (hc : allIn 0 255 c = true) (h : stateB b = 2) : stateB (b ++ c) = 2 := by
  have hbc : allIn 0 255 (b ++ c) = true := allIn_append.2 ⟨hb, hc⟩
  unfold stateB at h ⊢
  rw [if_pos hb] at h
  rw [if_pos hbc]
  by_cases n0 : needD b < 0
  · rw [need_more hbc (.inl n0), if_pos n0]
  rw [if_neg n0] at h
  by_cases n1 : (b.length : Int) < needD b
  · rw [if_pos n1] at h; cases h
  rw [if_neg n1] at h
  have hn := need_more hbc (.inr (by omega))
  rw [hn, if_neg n0, if_neg (by rw [List.length_append]; omega)]
  by_cases ho : (openD b).isSome = true
  · rw [if_pos ho] at h; cases h
  · refine if_neg fun q => ho ?_
    obtain ⟨⟨l, n⟩, hx⟩ := Option.isSome_iff_exists.1 q
    have h1 := (open_need hx).1
    obtain ⟨g1, x, w, g2, g3, g4, g5⟩ := openD_iff.1 hx
    rw [List.take_append_of_le_length (by omega)] at g4
    rw [openD_iff.2 ⟨hb, x, w, g2, by omega, g4, g5⟩]
    rfl

theorem state_nil : stateB [] = 0 := rfl

end Go.Mx

/-
  M36: entries, marked.
-/
namespace Go.Mx

def mrk : Int → List En → List En
  | _, [] => []
  | k, x :: r => (k, marks (k + 1) x.2.length) :: mrk (k + 1 + (x.2.length : Int)) r

theorem mrk_mrk : ∀ (k : Int) (es : List En), mrk k (mrk k es) = mrk k es
  | _, [] => rfl
  | k, x :: r => by simp only [mrk, marks_len]; rw [mrk_mrk _ r]

theorem szE_cons (x : En) (es : List En) : szE (x :: es) = 1 + x.2.length + szE es := by
  rw [show x :: es = [x] ++ es from rfl, szE_append]; simp [szE, sumIn]

theorem szE_mrk : ∀ (k : Int) (es : List En), szE (mrk k es) = szE es
  | _, [] => rfl
  | k, x :: r => by rw [mrk, szE_cons, szE_cons, szE_mrk _ r, marks_len]

theorem mrk_app : ∀ (k : Int) (a b : List En), mrk k (a ++ b) = mrk k a ++ mrk (k + szE a) b
  | k, [], b => by simp [mrk, szE, sumIn]
  | k, x :: a, b => by
    simp only [List.cons_append, mrk, List.cons.injEq, true_and]
    rw [mrk_app _ a b, szE_cons]
    congr 2; omega

theorem mrk_length : ∀ (k : Int) (a : List En), (mrk k a).length = a.length
  | _, [] => rfl
  | k, x :: a => by simp only [mrk, List.length_cons]; rw [mrk_length _ a]

/-- The list of a place, out of the front, the place and the rest. -/
theorem at_mid {α : Type} {l : List α} {i : Int} (h0 : 0 ≤ i) (h1 : i < (l.length : Int)) : ∃ x, l = l.take i.toNat ++ x :: l.drop (i + 1).toNat ∧ l.take (i + 1).toNat = l.take i.toNat ++ [x] ∧ l.drop i.toNat = x :: l.drop (i + 1).toNat ∧ (l.take i.toNat).length = i.toNat := by
  have hi : i.toNat < l.length := by omega
  have e1 : (i + 1).toNat = i.toNat + 1 := by omega
  refine ⟨l[i.toNat], ?_, ?_, ?_, by rw [List.length_take]; omega⟩
  · rw [e1, ← List.drop_eq_getElem_cons hi, List.take_append_drop]
  · rw [e1, ← List.take_append_getElem hi]
  · rw [e1, ← List.drop_eq_getElem_cons hi]

theorem getD_mid {α : Type} (a : List α) (x d : α) (b : List α) : (a ++ x :: b).getD a.length d = x := by simp
theorem set_mid {α : Type} (a : List α) (x y : α) (b : List α) : (a ++ x :: b).set a.length y = a ++ y :: b := by simp
theorem getD_mid' {α : Type} {a : List α} {k : Nat} (h : a.length = k) (x d : α) (b : List α) : (a ++ x :: b).getD k d = x := by subst h; simp
theorem set_mid' {α : Type} {a : List α} {k : Nat} (h : a.length = k) (x y : α) (b : List α) : (a ++ x :: b).set k y = a ++ y :: b := by subst h; simp

end Go.Mx

/-
  MX: laws that name the executor's own functions.
-/
namespace Go.Mx

theorem xor_nonneg {a b : Int} (ha : 0 ≤ a) (hb : 0 ≤ b) (ha' : a < 4611686018427387904) (hb' : b < 4611686018427387904) : 0 ≤ Go.Ax.bitI .xor a b ∧ Go.Ax.bitI .xor a b < 4611686018427387904 := by
  have h1 : (BitVec.ofInt 64 a).toNat = a.toNat := by
    rw [BitVec.toNat_ofInt]; omega
  have h2 : (BitVec.ofInt 64 b).toNat = b.toNat := by
    rw [BitVec.toNat_ofInt]; omega
  have h3 : a.toNat ^^^ b.toNat < 2 ^ 62 := Nat.xor_lt_two_pow (by omega) (by omega)
  have e : Go.Ax.bitI .xor a b = ((a.toNat ^^^ b.toNat : Nat) : Int) := by
    show Go.IntKind.i64.wrap _ = _
    rw [BitVec.toNat_xor, h1, h2]
    exact Go.Ax.i64_in ⟨by omega, by omega⟩
  rw [e]
  omega

theorem bitI_or {a b : Int} (ha : 0 ≤ a) (hb : 0 ≤ b) (ha' : a < 4611686018427387904) (hb' : b < 4611686018427387904) : Go.Ax.bitI .or a b = ((a.toNat ||| b.toNat : Nat) : Int) := by
  have h1 : (BitVec.ofInt 64 a).toNat = a.toNat := by
    rw [BitVec.toNat_ofInt]; omega
  have h2 : (BitVec.ofInt 64 b).toNat = b.toNat := by
    rw [BitVec.toNat_ofInt]; omega
  have h3 : a.toNat ||| b.toNat < 2 ^ 62 := Nat.or_lt_two_pow (by omega) (by omega)
  show Go.IntKind.i64.wrap _ = _
  rw [BitVec.toNat_or, h1, h2]
  exact Go.Ax.i64_in ⟨by omega, by omega⟩

theorem bitI_low {a : Int} (ha : 0 ≤ a) (ha' : a < 4611686018427387904) : Go.Ax.bitI .and a 1 = a % 2 := by
  have h1 : (BitVec.ofInt 64 a).toNat = a.toNat := by
    rw [BitVec.toNat_ofInt]; omega
  have h2 : (BitVec.ofInt 64 1).toNat = 1 := rfl
  have e : Go.Ax.bitI .and a 1 = ((a.toNat % 2 : Nat) : Int) := by
    show Go.IntKind.i64.wrap _ = _
    rw [BitVec.toNat_and, h1, h2, Nat.and_one_is_mod]
    exact Go.Ax.i64_in ⟨by omega, by omega⟩
  rw [e]; omega

/-- Bits that lie apart are summed. -/
theorem bitI_or_apart {a b : Int} {i : Nat} (ha : 0 ≤ a) (hb : 0 ≤ b) (hi : b < 2 ^ i) (hd : a % 2 ^ i = 0) (ha' : a < 4611686018427387904) (hb' : b < 4611686018427387904) : Go.Ax.bitI .or a b = a + b := by
  rw [bitI_or ha hb ha' hb']
  obtain ⟨q, hq⟩ := Int.dvd_of_emod_eq_zero hd
  have hp : (0 : Int) < 2 ^ i := Int.pow_pos (by omega)
  have hq0 : 0 ≤ q := by
    by_cases h : 0 ≤ q
    · exact h
    · have : 2 ^ i * q < 0 := Int.mul_neg_of_pos_of_neg hp (by omega)
      omega
  have hbn : b.toNat < 2 ^ i := by
    have : ((2 ^ i : Nat) : Int) = 2 ^ i := by simp
    omega
  have han : a.toNat = 2 ^ i * q.toNat := by
    have e : ((2 ^ i * q.toNat : Nat) : Int) = 2 ^ i * q := by simp [Int.toNat_of_nonneg hq0]
    omega
  have := Nat.two_pow_add_eq_or_of_lt hbn q.toNat
  rw [han, ← this, ← han]; omega

theorem ins_splice {out : List Int} {n : Int} (h0 : 0 ≤ n) (h1 : n ≤ (out.length : Int)) (p : Int) :
    List.set (Go.Ax.splice (out ++ [0]) (n + 1).toNat (List.take (((out ++ [0]).length : Int) - (n + 1)).toNat (List.take (((out ++ [0]).length : Int) - n).toNat (List.drop n.toNat (out ++ [0]))))) n.toNat p = out.take n.toNat ++ p :: out.drop n.toNat := by
  obtain ⟨k, rfl⟩ : ∃ k : Nat, n = k := ⟨n.toNat, by omega⟩
  have hk : k ≤ out.length := by omega
  have hl : (out ++ [0]).length = out.length + 1 := by simp
  have e1 : ((k : Int) + 1).toNat = k + 1 := by omega
  have e2 : (((out ++ [0]).length : Int) - ((k : Int) + 1)).toNat = out.length - k := by omega
  have e3 : (((out ++ [0]).length : Int) - (k : Int)).toNat = out.length + 1 - k := by omega
  rw [e1, e2, e3, Int.toNat_natCast]
  have hd : List.drop k (out ++ [0]) = out.drop k ++ [0] := List.drop_append_of_le_length hk
  have ht1 : List.take (out.length + 1 - k) (out.drop k ++ [0]) = out.drop k ++ [0] := List.take_of_length_le (by simp; omega)
  have ht2 : List.take (out.length - k) (out.drop k ++ [0]) = out.drop k := by
    rw [List.take_append_of_le_length (by simp), List.take_of_length_le (by simp)]
  rw [hd, ht1, ht2]
  unfold Go.Ax.splice
  have hlast : List.drop (k + 1 + (out.drop k).length) (out ++ [0]) = [] := List.drop_eq_nil_of_le (by simp; omega)
  rw [hlast, List.append_nil]
  have hk1 : List.take (k + 1) (out ++ [0]) = out.take k ++ [(out ++ [0])[k]'(by omega)] := by
    rw [List.take_succ_eq_append_getElem (by omega), List.take_append_of_le_length hk]
  rw [hk1, List.append_assoc]
  have hlen : (out.take k).length = k := by simp; omega
  rw [List.set_append_right _ _ (by omega), hlen, Nat.sub_self]
  rfl

theorem ins_splice_len {out : List Int} {n : Int} (h0 : 0 ≤ n) (h1 : n ≤ (out.length : Int)) :
    (Go.Ax.splice (out ++ [0]) (n + 1).toNat (List.take (((out ++ [0]).length : Int) - (n + 1)).toNat (List.take (((out ++ [0]).length : Int) - n).toNat (List.drop n.toNat (out ++ [0]))))).length = out.length + 1 := by
  have h := congrArg List.length (ins_splice h0 h1 0)
  rw [List.length_set] at h
  rw [h]
  simp; omega

theorem markL_eq : ∀ (n : Nat) (k : Int), Go.Ax.markL k n = marks k n
  | 0, k => rfl
  | n + 1, k => by simp only [Go.Ax.markL, marks, markL_eq n (k + 1)]

end Go.Mx
