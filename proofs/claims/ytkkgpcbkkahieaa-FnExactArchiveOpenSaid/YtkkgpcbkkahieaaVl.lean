/-
  The conditions of functions, proved: l_codes.
-/
import Derived.Test.YtkkgpcbkkahieaaM
set_option linter.unusedVariables false
set_option linter.unusedSimpArgs false
open Go Go.Ax Go.Mx
namespace Go.Proofs.Ytkkgpcbkkahieaa
def V_i_lengthsIn : Prop :=
  ∀ (l0 : List Int), (l0.length : Int) ≤ 1099511627776 → ((l0.length : Int) = 8 → (l0.length : Int) ≤ 1099511627776 ∧ (true = allIn 0 8 l0 → true = lensIn l0) ∧ (false = allIn 0 8 l0 → false = lensIn l0)) ∧ (¬(l0.length : Int) = 8 → false =
 lensIn l0)
theorem v_i_lengthsIn : V_i_lengthsIn := by
  unfold V_i_lengthsIn
  intro l hz
  unfold lensIn
  repeat' (first | apply And.intro | (rintro _ _ _ ⟨rfl, rfl, _, _⟩) | (rintro _ _ _ ⟨rfl, _, _, _⟩) | (rintro _ _ _ _ ⟨rfl, _, _, _⟩) | (rintro _ _ ⟨rfl, _⟩) | intro _)
  all_goals try (first | omega | with_reducible rfl | with_reducible assumption | (simp only [List.length_append, List.length_take, List.length_drop, List.length_set, List.length_cons, List.length_nil, List.length_replicate, Int.toNat_natCast] <;> omega) | (simp <;> omega))
  all_goals grind
def V_i_LengthsKraft : Prop :=
  ∀ (l0 : List Int), (l0.length : Int) ≤ 1099511627776 → (l0.length : Int) ≤ 1099511627776 ∧ (true = lensIn l0 → ∃ (I1 : Int → Int → Prop), ∃ (m2 : Int → Int → Nat), I1 0 0 ∧ ∀ (n3 n4 : Int), I1 n3 n4 → (n4 < (l0.length : Int) → 0 ≤ n4 ∧ n4 <
 (l0.length : Int) ∧ (0 < List.getD l0 (n4.toNat) 0 → 0 ≤ List.getD l0 (n4.toNat) 0 ∧ List.getD l0 (n4.toNat) (0 : Int) < 63 ∧ (-9223372036854775808 ≤ n3 + 256 / 2 ^ Int.toNat (List.getD l0 (n4.toNat) 0) ∧ n3 + 256 / 2 ^ Int.toNat (List.getD
 l0 (n4.toNat) 0) ≤ (9223372036854775807 : Int)) ∧ (-9223372036854775808 ≤ n4 + 1 ∧ n4 + (1 : Int) ≤ (9223372036854775807 : Int)) ∧ I1 (n3 + 256 / 2 ^ Int.toNat (List.getD l0 (n4.toNat) 0)) (n4 + 1) ∧ m2 (n3 + 256 / 2 ^ Int.toNat (List.getD
 l0 (n4.toNat) 0)) (n4 + 1) < m2 n3 n4) ∧ (¬0 < List.getD l0 (n4.toNat) 0 → (-9223372036854775808 ≤ n4 + 1 ∧ n4 + (1 : Int) ≤ (9223372036854775807 : Int)) ∧ I1 n3 (n4 + 1) ∧ m2 n3 (n4 + 1) < m2 n3 n4)) ∧ (¬n4 < (l0.length : Int) → n3 = kraftD
 l0)) ∧ (false = lensIn l0 → -1 = kraftD l0)
theorem v_i_LengthsKraft : V_i_LengthsKraft := by
  unfold V_i_LengthsKraft
  intro l hz
  refine ⟨hz, fun hv => ?_, fun hv => ?_⟩
  · have hD : kraftD l = kraft l := if_pos hv.symm
    obtain ⟨h8, hm⟩ := lensIn_iff.1 hv.symm
    rw [hD]
    refine ⟨fun n i => 0 ≤ i ∧ i ≤ l.length ∧ n + kraft (l.drop i.toNat) = kraft l ∧ 0 ≤ n ∧ n ≤ 128 * i, fun n i => (l.length - i).toNat, ?_, ?_⟩ <;> dsimp only
    · simp
    rintro n i ⟨h0, h1, h2, h3, h4⟩
    refine ⟨fun hlt => ?_, fun hge => by rw [kraft_end hge] at h2; omega⟩
    rw [kraft_step h0 hlt] at h2
    have hx := hm _ (at_mem h0 hlt)
    generalize l.getD i.toNat 0 = x at *
    refine ⟨h0, hlt, fun hp => ?_, fun hp => ?_⟩
    · obtain ⟨e1, e2, e3⟩ := p2_share hp hx.2
      rw [if_pos hp] at h2
      rw [e1]
      exact ⟨by omega, by omega, by omega, by omega, ⟨by omega, by omega, by omega, by omega, by omega⟩, by omega⟩
    · rw [if_neg hp] at h2
      exact ⟨by omega, ⟨by omega, by omega, by omega, by omega, by omega⟩, by omega⟩
  · exact (if_neg (by rw [← hv]; simp)).symm
def V_s_l1Power : Prop :=
  ∀ (n0 : Int), 0 ≤ n0 ∧ n0 ≤ 40 → ∃ (I1 : Int → Int → Prop), ∃ (m2 : Int → Int → Nat), I1 1 0 ∧ ∀ (n3 n4 : Int), I1 n3 n4 → (n4 < n0 → ((-9223372036854775808 : Int) ≤ 2 * n3 ∧ 2 * n3 ≤ (9223372036854775807 : Int)) ∧ (-9223372036854775808 ≤ n4
 + 1 ∧ n4 + (1 : Int) ≤ (9223372036854775807 : Int)) ∧ I1 (2 * n3) (n4 + 1) ∧ m2 (2 * n3) (n4 + 1) < m2 n3 n4) ∧ (¬n4 < n0 → n3 = p2 n0)
theorem v_s_l1Power : V_s_l1Power := by
  unfold V_s_l1Power
  rintro n ⟨h0, h1⟩
  refine ⟨fun r i => 0 ≤ i ∧ i ≤ n ∧ r = p2 i, fun r i => (n - i).toNat, ?_, ?_⟩ <;> dsimp only
  · exact ⟨by omega, by omega, rfl⟩
  rintro r i ⟨i0, i1, rfl⟩
  refine ⟨fun hlt => ?_, fun hge => by rw [show i = n by omega]⟩
  have hs := p2_step i0
  have hb : p2 i ≤ 1099511627776 := by
    have : p2 40 = p2 i * p2 (40 - i) := by rw [← p2_add i0 (by omega)]; congr 1; omega
    have e : p2 40 = 1099511627776 := by decide
    have q1 := p2_pos i
    have q2 := p2_pos (40 - i)
    have : p2 i * 1 ≤ p2 i * p2 (40 - i) := Int.mul_le_mul_of_nonneg_left (by omega) (by omega)
    omega
  have hp := p2_pos i
  exact ⟨by omega, by omega, ⟨by omega, by omega, hs.symm⟩, by omega⟩
def V_s_LengthsKraft : Prop :=
  ∀ (l0 : List Int), (l0.length : Int) ≤ 1099511627776 → ((l0.length : Int) ≠ 8 → -1 = kraftD l0) ∧ (¬(l0.length : Int) ≠ 8 → ∃ (I1 : Int → Int → Prop), ∃ (m2 : Int → Int → Nat), I1 0 0 ∧ ∀ (n3 n4 : Int), I1 n3 n4 → (n4 < (l0.length : Int) → 0
 ≤ n4 ∧ n4 < (l0.length : Int) ∧ True ∧ (true = decide (0 ≤ List.getD l0 (n4.toNat) 0 ∧ List.getD l0 (n4.toNat) (0 : Int) ≤ 8) → 0 ≤ n4 ∧ n4 < (l0.length : Int) ∧ (0 < List.getD l0 (n4.toNat) 0 → 0 ≤ n4 ∧ n4 < (l0.length : Int) ∧
 ((-9223372036854775808 : Int) ≤ 8 - List.getD l0 (n4.toNat) 0 ∧ 8 - List.getD l0 (n4.toNat) (0 : Int) ≤ (9223372036854775807 : Int)) ∧ ((0 : Int) ≤ 8 - List.getD l0 (n4.toNat) 0 ∧ 8 - List.getD l0 (n4.toNat) (0 : Int) ≤ 40) ∧ ∀ (n5 : Int),
 n5 = p2 (8 - List.getD l0 (n4.toNat) 0) → (-9223372036854775808 ≤ n3 + n5 ∧ n3 + n5 ≤ (9223372036854775807 : Int)) ∧ (-9223372036854775808 ≤ n4 + 1 ∧ n4 + (1 : Int) ≤ (9223372036854775807 : Int)) ∧ I1 (n3 + n5) (n4 + 1) ∧ m2 (n3 + n5) (n4 +
 1) < m2 n3 n4) ∧ (¬0 < List.getD l0 (n4.toNat) 0 → (-9223372036854775808 ≤ n4 + 1 ∧ n4 + (1 : Int) ≤ (9223372036854775807 : Int)) ∧ I1 n3 (n4 + 1) ∧ m2 n3 (n4 + 1) < m2 n3 n4)) ∧ (false = decide (0 ≤ List.getD l0 (n4.toNat) 0 ∧ List.getD l0
 (n4.toNat) (0 : Int) ≤ 8) → -1 = kraftD l0)) ∧ (¬n4 < (l0.length : Int) → n3 = kraftD l0))
theorem v_s_LengthsKraft : V_s_LengthsKraft := by
  unfold V_s_LengthsKraft
  intro l hz
  have hno : ¬ lensIn l = true → -1 = kraftD l := fun h => (if_neg h).symm
  refine ⟨fun h8 => hno (fun h => by have := (lensIn_iff.1 h).1; omega), fun h8 => ?_⟩
  refine ⟨fun n i => 0 ≤ i ∧ i ≤ l.length ∧ n + kraft (l.drop i.toNat) = kraft l ∧ 0 ≤ n ∧ n ≤ 128 * i ∧ (allIn 0 8 l = allIn 0 8 (l.drop i.toNat)), fun n i => (l.length - i).toNat, ?_, ?_⟩ <;> dsimp only
  · simp
  rintro n i ⟨h0, h1, h2, h3, h4, h5⟩
  refine ⟨fun hlt => ?_, fun hge => ?_⟩
  · rw [kraft_step h0 hlt] at h2
    rw [drop_lt 0 h0 hlt, allIn] at h5
    generalize l.getD i.toNat 0 = x at *
    refine ⟨h0, hlt, trivial, fun hin => ⟨h0, hlt, fun hp => ?_, fun hp => ?_⟩, fun hin => ?_⟩
    · rw [← hin, Bool.true_and] at h5
      simp only [true_eq_decide_iff] at hin
      obtain ⟨e1, e2, e3⟩ := p2_share hp hin.2
      rw [if_pos hp] at h2
      refine ⟨h0, hlt, by omega, by omega, ?_⟩
      rintro y rfl
      exact ⟨by omega, by omega, ⟨by omega, by omega, by omega, by omega, by omega, h5⟩, by omega⟩
    · rw [← hin, Bool.true_and] at h5
      rw [if_neg hp] at h2
      exact ⟨by omega, ⟨by omega, by omega, by omega, by omega, by omega, h5⟩, by omega⟩
    · rw [← hin, Bool.false_and] at h5
      exact hno (fun h => by simp [lensIn, h5] at h)
  · rw [kraft_end hge] at h2
    rw [drop_ge hge] at h5
    have : kraftD l = kraft l := if_pos (by simp [lensIn, h5, allIn]; omega)
    rw [this]; omega
def V_i_LengthsValid : Prop :=
  ∀ (l0 : List Int), (l0.length : Int) ≤ 1099511627776 → (l0.length : Int) ≤ 1099511627776 ∧ ∀ (n1 : Int), n1 = kraftD l0 → (0 < n1 → (n1 ≤ 256 → true = lensOk l0) ∧ (¬n1 ≤ 256 → false = lensOk l0)) ∧ (¬0 < n1 → false = lensOk l0)
theorem v_i_LengthsValid : V_i_LengthsValid := by
  unfold V_i_LengthsValid
  intro l hz
  have h4 : p2 8 = 256 := rfl
  by_cases hv : lensIn l = true
  · have h1 : kraftD l = kraft l := if_pos hv
    have h3 : lensOk l = decide (0 < kraft l ∧ kraft l ≤ 256) := by unfold lensOk; rw [hv, Bool.true_and]
    rw [h1, h3]
    clear h1 h3 hv
    generalize kraft l = k
    repeat' (first | apply And.intro | (rintro _ _ _ ⟨rfl, rfl, _, _⟩) | (rintro _ _ _ ⟨rfl, _, _, _⟩) | (rintro _ _ _ _ ⟨rfl, _, _, _⟩) | (rintro _ _ ⟨rfl, _⟩) | intro _)
    all_goals try (first | omega | with_reducible rfl | with_reducible assumption | (simp only [List.length_append, List.length_take, List.length_drop, List.length_set, List.length_cons, List.length_nil, List.length_replicate, Int.toNat_natCast] <;> omega) | (simp <;> omega))
    all_goals grind
  · have h1 : kraftD l = -1 := if_neg hv
    have h3 : lensOk l = false := by unfold lensOk; rw [Bool.eq_false_iff.2 hv, Bool.false_and]
    rw [h1, h3]
    clear h1 h3 hv
    repeat' (first | apply And.intro | (rintro _ _ _ ⟨rfl, rfl, _, _⟩) | (rintro _ _ _ ⟨rfl, _, _, _⟩) | (rintro _ _ _ _ ⟨rfl, _, _, _⟩) | (rintro _ _ ⟨rfl, _⟩) | intro _)
    all_goals try (first | omega | with_reducible rfl | with_reducible assumption | (simp only [List.length_append, List.length_take, List.length_drop, List.length_set, List.length_cons, List.length_nil, List.length_replicate, Int.toNat_natCast] <;> omega) | (simp <;> omega))
    all_goals grind
def V_s_LengthsValid : Prop :=
  ∀ (l0 : List Int), (l0.length : Int) ≤ 1099511627776 → (l0.length : Int) ≤ 1099511627776 ∧ ∀ (n1 : Int), n1 = kraftD l0 → ((0 : Int) ≤ 8 ∧ (8 : Int) ≤ 40) ∧ ∀ (n2 : Int), n2 = p2 8 → True ∧ (true = decide (1 ≤ n1 ∧ n1 ≤ n2) → true = lensOk
 l0) ∧ (false = decide (1 ≤ n1 ∧ n1 ≤ n2) → false = lensOk l0)
theorem v_s_LengthsValid : V_s_LengthsValid := by
  unfold V_s_LengthsValid
  intro l hz
  have h4 : p2 8 = 256 := rfl
  by_cases hv : lensIn l = true
  · have h1 : kraftD l = kraft l := if_pos hv
    have h3 : lensOk l = decide (0 < kraft l ∧ kraft l ≤ 256) := by unfold lensOk; rw [hv, Bool.true_and]
    rw [h1, h3]
    clear h1 h3 hv
    generalize kraft l = k
    repeat' (first | apply And.intro | (rintro _ _ _ ⟨rfl, rfl, _, _⟩) | (rintro _ _ _ ⟨rfl, _, _, _⟩) | (rintro _ _ _ _ ⟨rfl, _, _, _⟩) | (rintro _ _ ⟨rfl, _⟩) | intro _)
    all_goals try (first | omega | with_reducible rfl | with_reducible assumption | (simp only [List.length_append, List.length_take, List.length_drop, List.length_set, List.length_cons, List.length_nil, List.length_replicate, Int.toNat_natCast] <;> omega) | (simp <;> omega))
    all_goals grind
  · have h1 : kraftD l = -1 := if_neg hv
    have h3 : lensOk l = false := by unfold lensOk; rw [Bool.eq_false_iff.2 hv, Bool.false_and]
    rw [h1, h3]
    clear h1 h3 hv
    repeat' (first | apply And.intro | (rintro _ _ _ ⟨rfl, rfl, _, _⟩) | (rintro _ _ _ ⟨rfl, _, _, _⟩) | (rintro _ _ _ _ ⟨rfl, _, _, _⟩) | (rintro _ _ ⟨rfl, _⟩) | intro _)
    all_goals try (first | omega | with_reducible rfl | with_reducible assumption | (simp only [List.length_append, List.length_take, List.length_drop, List.length_set, List.length_cons, List.length_nil, List.length_replicate, Int.toNat_natCast] <;> omega) | (simp <;> omega))
    all_goals grind
def V_i_CodesOf : Prop :=
  ∀ (l0 : List Int), (l0.length : Int) ≤ 1099511627776 → (l0.length : Int) ≤ 1099511627776 ∧ (true = lensOk l0 → (8 : Int) = 8 ∧ (0 : Int) ≤ 8 ∧ (8 : Int) ≤ 1099511627776 ∧ ∃ (I1 : Int → List Int → Prop), ∃ (m2 : Int → List Int → Nat), I1 0
 (List.replicate (Int.toNat 8) 0) ∧ ∀ (n3 : Int) (l4 : List Int), I1 n3 l4 → (n3 < (↑(List.length (List.replicate (Int.toNat 8) (0 : Int))) : Int) → 0 ≤ n3 ∧ n3 < (l4.length : Int) ∧ n3.toNat < l4.length ∧ (-9223372036854775808 ≤ n3 + 1 ∧ n3
 + (1 : Int) ≤ (9223372036854775807 : Int)) ∧ I1 (n3 + 1) (List.set l4 (n3.toNat) (-1)) ∧ m2 (n3 + 1) (List.set l4 (n3.toNat) (-1)) < m2 n3 l4) ∧ (¬n3 < (↑(List.length (List.replicate (Int.toNat 8) (0 : Int))) : Int) → ∃ (I5 : Int → Int → Int
 → List Int → Prop), ∃ (m6 : Int → Int → Int → List Int → Nat), I5 0 0 1 l4 ∧ ∀ (n7 n8 n9 : Int) (l10 : List Int), I5 n7 n8 n9 l10 → (n9 ≤ 8 → ∃ (I11 : Int → Int → Int → List Int → Prop), ∃ (m12 : Int → Int → Int → List Int → Nat), I11 n7 n8
 0 l10 ∧ ∀ (n13 n14 n15 : Int) (l16 : List Int), I11 n13 n14 n15 l16 → (n15 < (l0.length : Int) → 0 ≤ n15 ∧ n15 < (l0.length : Int) ∧ (List.getD l0 (n15.toNat) 0 ≠ n9 → (-9223372036854775808 ≤ n15 + 1 ∧ n15 + (1 : Int) ≤ (9223372036854775807
 : Int)) ∧ I11 n13 n14 (n15 + 1) l16 ∧ m12 n13 n14 (n15 + 1) l16 < m12 n13 n14 n15 l16) ∧ (¬List.getD l0 (n15.toNat) 0 ≠ n9 → (0 < n14 → (-9223372036854775808 ≤ n13 + 1 ∧ n13 + (1 : Int) ≤ (9223372036854775807 : Int)) ∧ (-9223372036854775808
 ≤ n9 - n14 ∧ n9 - n14 ≤ (9223372036854775807 : Int)) ∧ 0 ≤ n9 - n14 ∧ n9 - n14 < 63 ∧ (-9223372036854775808 ≤ (n13 + 1) * 2 ^ Int.toNat (n9 - n14) ∧ (n13 + 1) * 2 ^ Int.toNat (n9 - n14) ≤ (9223372036854775807 : Int)) ∧ 0 ≤ n15 ∧ n15 <
 (l16.length : Int) ∧ n15.toNat < l16.length ∧ (-9223372036854775808 ≤ n15 + 1 ∧ n15 + (1 : Int) ≤ (9223372036854775807 : Int)) ∧ I11 ((n13 + 1) * 2 ^ Int.toNat (n9 - n14)) n9 (n15 + 1) (List.set l16 (n15.toNat) ((n13 + 1) * 2 ^ Int.toNat (n9
 - n14))) ∧ m12 ((n13 + 1) * 2 ^ Int.toNat (n9 - n14)) n9 (n15 + 1) (List.set l16 (n15.toNat) ((n13 + 1) * 2 ^ Int.toNat (n9 - n14))) < m12 n13 n14 n15 l16) ∧ (¬0 < n14 → 0 ≤ n15 ∧ n15 < (l16.length : Int) ∧ n15.toNat < l16.length ∧
 (-9223372036854775808 ≤ n15 + 1 ∧ n15 + (1 : Int) ≤ (9223372036854775807 : Int)) ∧ I11 n13 n9 (n15 + 1) (List.set l16 (n15.toNat) n13) ∧ m12 n13 n9 (n15 + 1) (List.set l16 (n15.toNat) n13) < m12 n13 n14 n15 l16))) ∧ (¬n15 < (l0.length : Int)
 → (-9223372036854775808 ≤ n9 + 1 ∧ n9 + (1 : Int) ≤ (9223372036854775807 : Int)) ∧ I5 n13 n14 (n9 + 1) l16 ∧ m6 n13 n14 (n9 + 1) l16 < m6 n7 n8 n9 l10)) ∧ (¬n9 ≤ 8 → l10 = codesD l0 ∧ (l10.length : Int) ≤ 8))) ∧ (false = lensOk l0 → [] =
 codesD l0 ∧ (↑0 : Int) ≤ 8)
theorem v_i_CodesOf : V_i_CodesOf := by
  unfold V_i_CodesOf
  intro l hz
  refine ⟨hz, fun hv => ⟨rfl, by omega, by omega, ?_⟩, fun hv => ?_⟩
  · have hD : codesD l = codesUp l 9 0 := if_pos hv.symm
    have hv' := hv.symm
    simp only [lensOk, Bool.and_eq_true, decide_eq_true_eq] at hv'
    obtain ⟨h8, hm⟩ := lensIn_iff.1 hv'.1
    rw [hD]
    refine ⟨fun i o => 0 ≤ i ∧ i ≤ 8 ∧ o.length = 8 ∧ o.take i.toNat = List.replicate i.toNat (-1), fun i o => (8 - i).toNat, ?_, ?_⟩ <;> dsimp only
    · simp
    rintro i o ⟨i0, i1, i2, i3⟩
    refine ⟨fun hlt => ?_, fun hge => ?_⟩
    · simp only [List.length_replicate] at hlt
      refine ⟨i0, by omega, by omega, by omega, ⟨by omega, by omega, by simp; omega, ?_⟩, by omega⟩
      rw [set_take i0 (by omega), i3, show (i + 1).toNat = i.toNat + 1 by omega, List.replicate_succ']
    · simp only [List.length_replicate] at hge
      have ho : o = codesUp l 1 0 := by
        rw [show i.toNat = 8 by omega, List.take_of_length_le (by omega)] at i3
        rw [codesUp_start, i3]
      clear i3
      subst ho
      have hle := fun w i => below_le l 0 w i
      refine ⟨fun n t w o => 1 ≤ w ∧ w ≤ 9 ∧ o = codesUp l w 0 ∧ 0 ≤ n ∧ ((t = 0 ∧ n = 0 ∧ below 0 l w 0 = 0) ∨ (1 ≤ t ∧ t < w ∧ (n + 1) * p2 (8 - t) = below 0 l w 0)), fun n t w o => (9 - w).toNat, ?_, ?_⟩ <;> dsimp only
      · refine ⟨by omega, by omega, rfl, by omega, .inl ⟨rfl, rfl, below_start l 0 (by omega)⟩⟩
      rintro n t w o ⟨w0, w1, rfl, n0, hI⟩
      refine ⟨fun hw => ?_, fun hw => by rw [show w = 9 by omega]; exact ⟨rfl, by rw [codesUp_len]; omega⟩⟩
      refine ⟨fun n t i o => 0 ≤ i ∧ i ≤ 8 ∧ o = codesUp l w i ∧ 0 ≤ n ∧ ((t = 0 ∧ n = 0 ∧ below 0 l w i = 0) ∨ (1 ≤ t ∧ t ≤ w ∧ (n + 1) * p2 (8 - t) = below 0 l w i)), fun n t i o => (8 - i).toNat, ?_, ?_⟩ <;> dsimp only
      · exact ⟨by omega, by omega, rfl, n0, hI.imp id (fun h => ⟨h.1, by omega, h.2.2⟩)⟩
      rintro n t i o ⟨j0, j1, rfl, m0, hJ⟩
      rw [codesUp_len]
      refine ⟨fun hlt => ⟨j0, hlt, fun hne => ?_, fun he => ?_⟩, fun hge => ?_⟩
      · have hr := below_row (by omega : 0 < w) l 0 i j0 (by omega)
        rw [Int.sub_zero, if_neg hne, Int.add_zero] at hr
        rw [codesUp_same j0 hne, hr]
        exact ⟨by omega, ⟨by omega, by omega, rfl, m0, hJ⟩, by omega⟩
      · have he' : l.getD i.toNat 0 = w := by omega
        have hr := below_row (by omega : 0 < w) l 0 i j0 (by omega)
        rw [Int.sub_zero, if_pos he'] at hr
        have hset := codesUp_set j0 (by omega) (by omega) he'
        have hk := hle w i
        have hsh := p2_share (by omega : 0 < w) hw
        refine ⟨fun ht => ?_, fun ht => ?_⟩
        · obtain ⟨t1, t2, t3⟩ := hJ.resolve_left (by omega)
          have hq : p2 (8 - t) = p2 (w - t) * p2 (8 - w) := by rw [← p2_add (by omega) (by omega)]; congr 1; omega
          have hc : (n + 1) * p2 (w - t) * p2 (8 - w) = below 0 l w i := by rw [Int.mul_assoc, ← hq, t3]
          have hcode := code_at j0 (by omega) he' hc
          have e2 : (2 : Int) ^ (w - t).toNat = p2 (w - t) := rfl
          rw [hcode] at hset
          have hn1 : n + 1 ≤ 256 := by
            have : (n + 1) * 1 ≤ (n + 1) * p2 (8 - t) := Int.mul_le_mul_of_nonneg_left (by have := p2_pos (8 - t); omega) (by omega)
            omega
          have hc0 : 0 ≤ (n + 1) * p2 (w - t) := Int.mul_nonneg (by omega) (by have := p2_pos (w - t); omega)
          have hc1 : (n + 1) * p2 (w - t) ≤ 256 := by
            have : (n + 1) * p2 (w - t) * 1 ≤ (n + 1) * p2 (w - t) * p2 (8 - w) := Int.mul_le_mul_of_nonneg_left (by omega) hc0
            omega
          rw [e2]
          generalize (n + 1) * p2 (w - t) = q at *
          refine ⟨by omega, by omega, by omega, by omega, by omega, j0, by omega, by omega, by omega, ⟨by omega, by omega, hset.symm, hc0, .inr ⟨w0, by omega, ?_⟩⟩, by omega⟩
          rw [hr, Int.add_mul, hc, Int.one_mul]
        · obtain ⟨t1, t2, t3⟩ := hJ.resolve_right (by omega)
          subst t2
          have hcode := code_at (n := 0) j0 (by omega) he' (by rw [t3]; simp)
          rw [hcode] at hset
          refine ⟨j0, by omega, by omega, by omega, ⟨by omega, by omega, hset.symm, by omega, .inr ⟨w0, by omega, ?_⟩⟩, by omega⟩
          rw [hr, t3]; simp
      · have hbn := below_next (w := w) l 0 i (by omega) (by omega)
        rw [hbn] at hJ
        rw [codesUp_next (by omega)]
        exact ⟨by omega, ⟨by omega, by omega, rfl, m0, hJ.imp id (fun h => ⟨h.1, by omega, h.2.2⟩)⟩, by omega⟩
  · have : codesD l = [] := if_neg (by rw [← hv]; simp)
    rw [this]; simp
def V_s_CodesOf : Prop :=
  ∀ (l0 : List Int), (l0.length : Int) ≤ 1099511627776 → ∃ (I1 : List Int → Int → Prop), ∃ (m2 : List Int → Int → Nat), I1 [] 0 ∧ ∀ (l3 : List Int) (n4 : Int), I1 l3 n4 → (n4 < (l0.length : Int) → (l0.length : Int) ≤ 1099511627776 ∧ (true =
 lensOk l0 → (↑(l3.length + List.length [-1]) : Int) ≤ 1099511627776 ∧ (-9223372036854775808 ≤ n4 + 1 ∧ n4 + (1 : Int) ≤ (9223372036854775807 : Int)) ∧ I1 (l3 ++ [-1]) (n4 + 1) ∧ m2 (l3 ++ [-1]) (n4 + 1) < m2 l3 n4) ∧ (false = lensOk l0 → ∃
 (I5 : Int → Int → List Int → Prop), ∃ (m6 : Int → Int → List Int → Nat), I5 0 1 l3 ∧ ∀ (n7 n8 : Int) (l9 : List Int), I5 n7 n8 l9 → (n8 ≤ 8 → (0 < (l9.length : Int) → ((-9223372036854775808 : Int) ≤ 2 * n7 ∧ 2 * n7 ≤ (9223372036854775807 :
 Int)) ∧ ∃ (I10 : Int → Int → List Int → Prop), ∃ (m11 : Int → Int → List Int → Nat), I10 (2 * n7) 0 l9 ∧ ∀ (n12 n13 : Int) (l14 : List Int), I10 n12 n13 l14 → (n13 < (l0.length : Int) → 0 ≤ n13 ∧ n13 < (l0.length : Int) ∧ (List.getD l0
 (n13.toNat) 0 = n8 → 0 ≤ n13 ∧ n13 < (l14.length : Int) ∧ n13.toNat < l14.length ∧ (-9223372036854775808 ≤ n12 + 1 ∧ n12 + (1 : Int) ≤ (9223372036854775807 : Int)) ∧ (-9223372036854775808 ≤ n13 + 1 ∧ n13 + (1 : Int) ≤ (9223372036854775807 :
 Int)) ∧ I10 (n12 + 1) (n13 + 1) (List.set l14 (n13.toNat) n12) ∧ m11 (n12 + 1) (n13 + 1) (List.set l14 (n13.toNat) n12) < m11 n12 n13 l14) ∧ (¬List.getD l0 (n13.toNat) 0 = n8 → (-9223372036854775808 ≤ n13 + 1 ∧ n13 + (1 : Int) ≤
 (9223372036854775807 : Int)) ∧ I10 n12 (n13 + 1) l14 ∧ m11 n12 (n13 + 1) l14 < m11 n12 n13 l14)) ∧ (¬n13 < (l0.length : Int) → (-9223372036854775808 ≤ n8 + 1 ∧ n8 + (1 : Int) ≤ (9223372036854775807 : Int)) ∧ I5 n12 (n8 + 1) l14 ∧ m6 n12 (n8
 + 1) l14 < m6 n7 n8 l9)) ∧ (¬0 < (l9.length : Int) → l9 = codesD l0 ∧ (l9.length : Int) ≤ 8)) ∧ (¬n8 ≤ 8 → l9 = codesD l0 ∧ (l9.length : Int) ≤ 8))) ∧ (¬n4 < (l0.length : Int) → ∃ (I15 : Int → Int → List Int → Prop), ∃ (m16 : Int → Int →
 List Int → Nat), I15 0 1 l3 ∧ ∀ (n17 n18 : Int) (l19 : List Int), I15 n17 n18 l19 → (n18 ≤ 8 → (0 < (l19.length : Int) → ((-9223372036854775808 : Int) ≤ 2 * n17 ∧ 2 * n17 ≤ (9223372036854775807 : Int)) ∧ ∃ (I20 : Int → Int → List Int →
 Prop), ∃ (m21 : Int → Int → List Int → Nat), I20 (2 * n17) 0 l19 ∧ ∀ (n22 n23 : Int) (l24 : List Int), I20 n22 n23 l24 → (n23 < (l0.length : Int) → 0 ≤ n23 ∧ n23 < (l0.length : Int) ∧ (List.getD l0 (n23.toNat) 0 = n18 → 0 ≤ n23 ∧ n23 <
 (l24.length : Int) ∧ n23.toNat < l24.length ∧ (-9223372036854775808 ≤ n22 + 1 ∧ n22 + (1 : Int) ≤ (9223372036854775807 : Int)) ∧ (-9223372036854775808 ≤ n23 + 1 ∧ n23 + (1 : Int) ≤ (9223372036854775807 : Int)) ∧ I20 (n22 + 1) (n23 + 1)
 (List.set l24 (n23.toNat) n22) ∧ m21 (n22 + 1) (n23 + 1) (List.set l24 (n23.toNat) n22) < m21 n22 n23 l24) ∧ (¬List.getD l0 (n23.toNat) 0 = n18 → (-9223372036854775808 ≤ n23 + 1 ∧ n23 + (1 : Int) ≤ (9223372036854775807 : Int)) ∧ I20 n22 (n23
 + 1) l24 ∧ m21 n22 (n23 + 1) l24 < m21 n22 n23 l24)) ∧ (¬n23 < (l0.length : Int) → (-9223372036854775808 ≤ n18 + 1 ∧ n18 + (1 : Int) ≤ (9223372036854775807 : Int)) ∧ I15 n22 (n18 + 1) l24 ∧ m16 n22 (n18 + 1) l24 < m16 n17 n18 l19)) ∧ (¬0 <
 (l19.length : Int) → l19 = codesD l0 ∧ (l19.length : Int) ≤ 8)) ∧ (¬n18 ≤ 8 → l19 = codesD l0 ∧ (l19.length : Int) ≤ 8))
theorem v_s_CodesOf : V_s_CodesOf := by
  unfold V_s_CodesOf
  intro l hz
  have hno : ¬ lensOk l = true → codesD l = [] := fun h => if_neg h
  by_cases hv : lensOk l = true
  · have hD : codesD l = codesUp l 9 0 := if_pos hv
    have hv' := hv
    simp only [lensOk, Bool.and_eq_true, decide_eq_true_eq] at hv'
    obtain ⟨h8, hm⟩ := lensIn_iff.1 hv'.1
    have hle := fun w i => below_le l 0 w i
    rw [hD, hv]
    refine ⟨fun o i => 0 ≤ i ∧ i ≤ 8 ∧ o = List.replicate i.toNat (-1), fun o i => (8 - i).toNat, ?_, ?_⟩ <;> dsimp only
    · simp
    rintro o i ⟨i0, i1, rfl⟩
    refine ⟨fun hlt => ⟨hz, fun _ => ⟨by simp; omega, by omega, ⟨by omega, by omega, ?_⟩, by omega⟩, fun h => (by cases h)⟩, fun hge => ?_⟩
    · rw [show (i + 1).toNat = i.toNat + 1 by omega, List.replicate_succ']
    · have ho : List.replicate i.toNat (-1) = List.replicate 8 (-1 : Int) := by rw [show i.toNat = 8 by omega]
      refine ⟨fun n w o => 1 ≤ w ∧ w ≤ 9 ∧ o = codesUp l w 0 ∧ 0 ≤ n ∧ n * p2 (9 - w) = below 0 l w 0, fun n w o => (9 - w).toNat, ?_, ?_⟩ <;> dsimp only
      · exact ⟨by omega, by omega, (codesUp_start l).symm ▸ ho, by omega, by rw [below_start l 0 (by omega)]; simp⟩
      rintro n w o ⟨w0, w1, rfl, n0, hI⟩
      rw [codesUp_len]
      refine ⟨fun hw => ⟨fun _ => ⟨?_, ?_⟩, fun h => by omega⟩, fun hw => by rw [show w = 9 by omega]; exact ⟨rfl, by omega⟩⟩
      · have hk := hle w 0
        have : n * 1 ≤ n * p2 (9 - w) := Int.mul_le_mul_of_nonneg_left (by have := p2_pos (9 - w); omega) n0
        omega
      have hd : 2 * n * p2 (8 - w) = below 0 l w 0 := by
        rw [← hI, show 9 - w = (8 - w) + 1 by omega, p2_step (by omega), ← Int.mul_assoc, Int.mul_comm 2 n]
      refine ⟨fun n i o => 0 ≤ i ∧ i ≤ 8 ∧ o = codesUp l w i ∧ 0 ≤ n ∧ n * p2 (8 - w) = below 0 l w i, fun n i o => (8 - i).toNat, ?_, ?_⟩ <;> dsimp only
      · exact ⟨by omega, by omega, rfl, by omega, hd⟩
      rintro n i o ⟨j0, j1, rfl, m0, hJ⟩
      rw [codesUp_len]
      refine ⟨fun hlt => ⟨j0, hlt, fun he => ?_, fun hne => ?_⟩, fun hge => ?_⟩
      · have hr := below_row (by omega : 0 < w) l 0 i j0 (by omega)
        rw [Int.sub_zero, if_pos he] at hr
        have hset := codesUp_set j0 (by omega) (by omega) he
        rw [code_at j0 (by omega) he hJ] at hset
        have hk := hle w i
        have hsh := p2_share (by omega : 0 < w) hw
        have : n * 1 ≤ n * p2 (8 - w) := Int.mul_le_mul_of_nonneg_left (by omega) m0
        refine ⟨j0, by omega, by omega, by omega, by omega, ⟨by omega, by omega, hset.symm, by omega, ?_⟩, by omega⟩
        rw [hr, Int.add_mul, hJ, Int.one_mul]
      · have hr := below_row (by omega : 0 < w) l 0 i j0 (by omega)
        rw [Int.sub_zero, if_neg hne, Int.add_zero] at hr
        rw [codesUp_same j0 hne, hr]
        exact ⟨by omega, ⟨by omega, by omega, rfl, m0, hJ⟩, by omega⟩
      · have hbn := below_next (w := w) l 0 i (by omega) (by omega)
        rw [hbn] at hJ
        rw [codesUp_next (by omega)]
        refine ⟨by omega, ⟨by omega, by omega, rfl, m0, ?_⟩, by omega⟩
        rw [← hJ]; congr 2; omega
  · have hf := Bool.eq_false_iff.2 hv
    rw [hno hv, hf]
    refine ⟨fun o i => 0 ≤ i ∧ i ≤ l.length ∧ o = [], fun o i => (l.length - i).toNat, ?_, ?_⟩ <;> dsimp only
    · simp
    rintro o i ⟨i0, i1, rfl⟩
    refine ⟨fun hlt => ⟨hz, fun h => (by cases h), fun _ => ?_⟩, fun hge => ?_⟩
    · refine ⟨fun n w o => o = [], fun n w o => 0, ?_, ?_⟩ <;> dsimp only
      rintro n w o rfl
      exact ⟨fun _ => ⟨fun h => by simp at h, fun _ => ⟨rfl, by simp⟩⟩, fun _ => ⟨rfl, by simp⟩⟩
    · refine ⟨fun n w o => o = [], fun n w o => 0, ?_, ?_⟩ <;> dsimp only
      rintro n w o rfl
      exact ⟨fun _ => ⟨fun h => by simp at h, fun _ => ⟨rfl, by simp⟩⟩, fun _ => ⟨rfl, by simp⟩⟩
end Go.Proofs.Ytkkgpcbkkahieaa
