/-
  The conditions of functions, proved: t_stream.
-/
import Derived.Test.YtkkgpcbkkahieaaM
set_option linter.unusedVariables false
set_option linter.unusedSimpArgs false
open Go Go.Ax Go.Mx
namespace Go.Proofs.Ytkkgpcbkkahieaa
def V_i_TextValid : Prop :=
  ∀ (l0 : List Int), (l0.length : Int) ≤ 1099511627776 → ((l0.length : Int) ≤ 120 → (l0.length : Int) ≤ 1099511627776 ∧ (true = allIn 0 7 l0 → true = textOk l0) ∧ (false = allIn 0 7 l0 → false = textOk l0)) ∧ (¬(l0.length : Int) ≤ 120 → false
 = textOk l0)
theorem v_i_TextValid : V_i_TextValid := by
  unfold V_i_TextValid
  intro l hz
  have h120 : decide (l.length ≤ 120) = decide ((l.length : Int) ≤ 120) := by congr 1; exact propext ⟨fun h => by omega, fun h => by omega⟩
  unfold textOk
  rw [h120]
  refine ⟨fun h => ⟨hz, fun hv => by rw [← hv, decide_eq_true h]; rfl, fun hv => by rw [← hv, Bool.and_false]⟩, fun h => by rw [decide_eq_false h]; rfl⟩
def V_s_l22Symbols : Prop :=
  ∀ (l0 : List Int), (l0.length : Int) ≤ 1099511627776 → ∃ (I1 : Int → Prop), ∃ (m2 : Int → Nat), I1 0 ∧ ∀ (n3 : Int), I1 n3 → (n3 < (l0.length : Int) → 0 ≤ n3 ∧ n3 < (l0.length : Int) ∧ True ∧ (true = decide (0 ≤ List.getD l0 (n3.toNat) 0 ∧
 List.getD l0 (n3.toNat) (0 : Int) ≤ 7) → (-9223372036854775808 ≤ n3 + 1 ∧ n3 + (1 : Int) ≤ (9223372036854775807 : Int)) ∧ I1 (n3 + 1) ∧ m2 (n3 + 1) < m2 n3) ∧ (false = decide (0 ≤ List.getD l0 (n3.toNat) 0 ∧ List.getD l0 (n3.toNat) (0 : Int)
 ≤ 7) → false = allIn 0 7 l0)) ∧ (¬n3 < (l0.length : Int) → true = allIn 0 7 l0)
theorem v_s_l22Symbols : V_s_l22Symbols := by
  unfold V_s_l22Symbols
  intro l hz
  refine ⟨fun i => 0 ≤ i ∧ i ≤ l.length ∧ allIn 0 7 (l.drop i.toNat) = allIn 0 7 l, fun i => (l.length - i).toNat, ?_, ?_⟩ <;> dsimp only
  · simp
  rintro i ⟨h0, h1, h2⟩
  refine ⟨fun hlt => ?_, fun hge => ?_⟩
  · rw [drop_lt 0 h0 hlt, allIn] at h2
    grind
  · rw [drop_ge hge, allIn] at h2
    grind
def V_s_TextValid : Prop :=
  ∀ (l0 : List Int), (l0.length : Int) ≤ 1099511627776 → (l0.length : Int) ≤ 1099511627776 ∧ (true = allIn 0 7 l0 → ((l0.length : Int) ≤ 120 → true = textOk l0) ∧ (¬(l0.length : Int) ≤ 120 → false = textOk l0)) ∧ (false = allIn 0 7 l0 → false
 = textOk l0)
theorem v_s_TextValid : V_s_TextValid := by
  unfold V_s_TextValid
  intro l hz
  have h120 : decide (l.length ≤ 120) = decide ((l.length : Int) ≤ 120) := by congr 1; exact propext ⟨fun h => by omega, fun h => by omega⟩
  unfold textOk
  rw [h120]
  refine ⟨hz, fun hv => ⟨fun h => by rw [← hv, decide_eq_true h]; rfl, fun h => by rw [decide_eq_false h]; rfl⟩, fun hv => by rw [← hv, Bool.and_false]⟩
def V_i_needed : Prop :=
  ∀ (l0 : List Int), (l0.length : Int) ≤ 1099511627776 ∧ allIn 0 255 l0 = true → (0 < (l0.length : Int) → (0 : Int) ≤ 0 ∧ 0 < (l0.length : Int) ∧ (3 < List.getD l0 (Int.toNat 0) 0 → false = decide (0 ≤ needD l0) ∧ (false = true → 0 = needD
 l0)) ∧ (¬3 < List.getD l0 (Int.toNat 0) 0 → ((l0.length : Int) < 2 → true = decide (0 ≤ needD l0) ∧ (true = true → 2 = needD l0)) ∧ (¬(l0.length : Int) < 2 → (0 : Int) ≤ 0 ∧ 0 < (l0.length : Int) ∧ (0 : Int) ≤ 1 ∧ 1 < (l0.length : Int) ∧ (40
 < List.getD l0 (Int.toNat 1) 0 → false = decide (0 ≤ needD l0) ∧ (false = true → 0 = needD l0)) ∧ (¬40 < List.getD l0 (Int.toNat 1) 0 → (List.getD l0 (Int.toNat 0) (0 : Int) = 2 → (List.getD l0 (Int.toNat 1) (0 : Int) = 0 → false = decide (0
 ≤ needD l0) ∧ (false = true → 0 = needD l0)) ∧ (¬List.getD l0 (Int.toNat 1) (0 : Int) = 0 → (List.getD l0 (Int.toNat 0) (0 : Int) = 1 → ((-9223372036854775808 : Int) ≤ 2 * List.getD l0 (Int.toNat 1) 0 ∧ 2 * List.getD l0 (Int.toNat 1) (0 :
 Int) ≤ (9223372036854775807 : Int)) ∧ ((-9223372036854775808 : Int) ≤ 2 + 2 * List.getD l0 (Int.toNat 1) 0 ∧ 2 + 2 * List.getD l0 (Int.toNat 1) (0 : Int) ≤ (9223372036854775807 : Int)) ∧ true = decide (0 ≤ needD l0) ∧ (true = true → 2 + 2 *
 List.getD l0 (Int.toNat 1) 0 = needD l0)) ∧ (¬List.getD l0 (Int.toNat 0) (0 : Int) = 1 → (List.getD l0 (Int.toNat 0) (0 : Int) = 2 → ((l0.length : Int) < 6 → true = decide (0 ≤ needD l0) ∧ (true = true → 6 = needD l0)) ∧ (¬(l0.length : Int)
 < 6 → (0 : Int) ≤ 2 ∧ (2 : Int) ≤ 6 ∧ 6 ≤ (l0.length : Int) ∧ ((↑(List.length (List.drop (Int.toNat 2) (List.take (Int.toNat 6) l0))) : Int) ≤ 1000 ∧ allIn 0 255 (List.drop (Int.toNat 2) (List.take (Int.toNat 6) l0)) = true) ∧ ∀ (l1 : List
 Int), l1 = unlens (List.drop (Int.toNat 2) (List.take (Int.toNat 6) l0)) → (l1.length : Int) ≤ 1099511627776 ∧ ∀ (l2 : List Int), l2 = codesD l1 ∧ (l2.length : Int) ≤ 8 → ((l2.length : Int) = 0 → false = decide (0 ≤ needD l0) ∧ (false = true
 → 0 = needD l0)) ∧ (¬(l2.length : Int) = 0 → (0 : Int) ≤ 6 ∧ 6 ≤ (l0.length : Int) ∧ ((↑(List.length (List.drop (Int.toNat 6) l0)) : Int) ≤ 1099511627776 ∧ allIn 0 255 (List.drop (Int.toNat 6) l0) = true) ∧ ∀ (l3 : List Int), l3 = bitsB
 (List.take 40 (List.drop (Int.toNat 6) l0)) → ∃ (I4 : Int → Int → Prop), ∃ (m5 : Int → Int → Nat), I4 0 0 ∧ ∀ (n6 n7 : Int), I4 n6 n7 → (n7 < List.getD l0 (Int.toNat 1) 0 → (bitsIn l3 = true ∧ lensOk l1 = true ∧ l2 = codesD l1 ∧ 0 ≤ n6 ∧ n6
 ≤ (l3.length : Int)) ∧ ∀ (n8 : Int), n8 = symAt l1 l3 n6 → (n8 < 0 → (-9223372036854775808 ≤ (l0.length : Int) + 1 ∧ (l0.length : Int) + (1 : Int) ≤ (9223372036854775807 : Int)) ∧ (-9223372036854775808 ≤ (l3.length : Int) - n6 ∧ (l3.length :
 Int) - n6 ≤ (9223372036854775807 : Int)) ∧ ((l3.length : Int) - n6 < 8 → true = decide (0 ≤ needD l0) ∧ (true = true → (l0.length : Int) + 1 = needD l0)) ∧ (¬(l3.length : Int) - n6 < 8 → false = decide (0 ≤ needD l0) ∧ (false = true →
 (l0.length : Int) + 1 = needD l0))) ∧ (¬n8 < 0 → 0 ≤ n8 ∧ n8 < (l1.length : Int) ∧ n8.toNat < l1.length ∧ (-9223372036854775808 ≤ n6 + List.getD l1 (n8.toNat) 0 ∧ n6 + List.getD l1 (n8.toNat) (0 : Int) ≤ (9223372036854775807 : Int)) ∧
 (-9223372036854775808 ≤ n7 + 1 ∧ n7 + (1 : Int) ≤ (9223372036854775807 : Int)) ∧ I4 (n6 + List.getD l1 (n8.toNat) 0) (n7 + 1) ∧ m5 (n6 + List.getD l1 (n8.toNat) 0) (n7 + 1) < m5 n6 n7)) ∧ (¬n7 < List.getD l0 (Int.toNat 1) 0 →
 (-9223372036854775808 ≤ n6 + 7 ∧ n6 + (7 : Int) ≤ (9223372036854775807 : Int)) ∧ 0 ≤ n6 + 7 ∧ (0 : Int) < 8 ∧ (-9223372036854775808 ≤ (n6 + 7) / 8 ∧ (n6 + 7) / (8 : Int) ≤ (9223372036854775807 : Int)) ∧ ((-9223372036854775808 : Int) ≤ 6 +
 (n6 + 7) / 8 ∧ 6 + (n6 + 7) / (8 : Int) ≤ (9223372036854775807 : Int)) ∧ true = decide (0 ≤ needD l0) ∧ (true = true → 6 + (n6 + 7) / 8 = needD l0))))) ∧ (¬List.getD l0 (Int.toNat 0) (0 : Int) = 2 → ((-9223372036854775808 : Int) ≤ 2 +
 List.getD l0 (Int.toNat 1) 0 ∧ 2 + List.getD l0 (Int.toNat 1) (0 : Int) ≤ (9223372036854775807 : Int)) ∧ true = decide (0 ≤ needD l0) ∧ (true = true → 2 + List.getD l0 (Int.toNat 1) 0 = needD l0))))) ∧ (¬List.getD l0 (Int.toNat 0) (0 : Int)
 = 2 → (List.getD l0 (Int.toNat 0) (0 : Int) = 1 → ((-9223372036854775808 : Int) ≤ 2 * List.getD l0 (Int.toNat 1) 0 ∧ 2 * List.getD l0 (Int.toNat 1) (0 : Int) ≤ (9223372036854775807 : Int)) ∧ ((-9223372036854775808 : Int) ≤ 2 + 2 * List.getD
 l0 (Int.toNat 1) 0 ∧ 2 + 2 * List.getD l0 (Int.toNat 1) (0 : Int) ≤ (9223372036854775807 : Int)) ∧ true = decide (0 ≤ needD l0) ∧ (true = true → 2 + 2 * List.getD l0 (Int.toNat 1) 0 = needD l0)) ∧ (¬List.getD l0 (Int.toNat 0) (0 : Int) = 1 →
 (List.getD l0 (Int.toNat 0) (0 : Int) = 2 → ((l0.length : Int) < 6 → true = decide (0 ≤ needD l0) ∧ (true = true → 6 = needD l0)) ∧ (¬(l0.length : Int) < 6 → (0 : Int) ≤ 2 ∧ (2 : Int) ≤ 6 ∧ 6 ≤ (l0.length : Int) ∧ ((↑(List.length (List.drop
 (Int.toNat 2) (List.take (Int.toNat 6) l0))) : Int) ≤ 1000 ∧ allIn 0 255 (List.drop (Int.toNat 2) (List.take (Int.toNat 6) l0)) = true) ∧ ∀ (l9 : List Int), l9 = unlens (List.drop (Int.toNat 2) (List.take (Int.toNat 6) l0)) → (l9.length :
 Int) ≤ 1099511627776 ∧ ∀ (l10 : List Int), l10 = codesD l9 ∧ (l10.length : Int) ≤ 8 → ((l10.length : Int) = 0 → false = decide (0 ≤ needD l0) ∧ (false = true → 0 = needD l0)) ∧ (¬(l10.length : Int) = 0 → (0 : Int) ≤ 6 ∧ 6 ≤ (l0.length : Int)
 ∧ ((↑(List.length (List.drop (Int.toNat 6) l0)) : Int) ≤ 1099511627776 ∧ allIn 0 255 (List.drop (Int.toNat 6) l0) = true) ∧ ∀ (l11 : List Int), l11 = bitsB (List.take 40 (List.drop (Int.toNat 6) l0)) → ∃ (I12 : Int → Int → Prop), ∃ (m13 :
 Int → Int → Nat), I12 0 0 ∧ ∀ (n14 n15 : Int), I12 n14 n15 → (n15 < List.getD l0 (Int.toNat 1) 0 → (bitsIn l11 = true ∧ lensOk l9 = true ∧ l10 = codesD l9 ∧ 0 ≤ n14 ∧ n14 ≤ (l11.length : Int)) ∧ ∀ (n16 : Int), n16 = symAt l9 l11 n14 → (n16 <
 0 → (-9223372036854775808 ≤ (l0.length : Int) + 1 ∧ (l0.length : Int) + (1 : Int) ≤ (9223372036854775807 : Int)) ∧ (-9223372036854775808 ≤ (l11.length : Int) - n14 ∧ (l11.length : Int) - n14 ≤ (9223372036854775807 : Int)) ∧ ((l11.length :
 Int) - n14 < 8 → true = decide (0 ≤ needD l0) ∧ (true = true → (l0.length : Int) + 1 = needD l0)) ∧ (¬(l11.length : Int) - n14 < 8 → false = decide (0 ≤ needD l0) ∧ (false = true → (l0.length : Int) + 1 = needD l0))) ∧ (¬n16 < 0 → 0 ≤ n16 ∧
 n16 < (l9.length : Int) ∧ n16.toNat < l9.length ∧ (-9223372036854775808 ≤ n14 + List.getD l9 (n16.toNat) 0 ∧ n14 + List.getD l9 (n16.toNat) (0 : Int) ≤ (9223372036854775807 : Int)) ∧ (-9223372036854775808 ≤ n15 + 1 ∧ n15 + (1 : Int) ≤
 (9223372036854775807 : Int)) ∧ I12 (n14 + List.getD l9 (n16.toNat) 0) (n15 + 1) ∧ m13 (n14 + List.getD l9 (n16.toNat) 0) (n15 + 1) < m13 n14 n15)) ∧ (¬n15 < List.getD l0 (Int.toNat 1) 0 → (-9223372036854775808 ≤ n14 + 7 ∧ n14 + (7 : Int) ≤
 (9223372036854775807 : Int)) ∧ 0 ≤ n14 + 7 ∧ (0 : Int) < 8 ∧ (-9223372036854775808 ≤ (n14 + 7) / 8 ∧ (n14 + 7) / (8 : Int) ≤ (9223372036854775807 : Int)) ∧ ((-9223372036854775808 : Int) ≤ 6 + (n14 + 7) / 8 ∧ 6 + (n14 + 7) / (8 : Int) ≤
 (9223372036854775807 : Int)) ∧ true = decide (0 ≤ needD l0) ∧ (true = true → 6 + (n14 + 7) / 8 = needD l0))))) ∧ (¬List.getD l0 (Int.toNat 0) (0 : Int) = 2 → ((-9223372036854775808 : Int) ≤ 2 + List.getD l0 (Int.toNat 1) 0 ∧ 2 + List.getD l0
 (Int.toNat 1) (0 : Int) ≤ (9223372036854775807 : Int)) ∧ true = decide (0 ≤ needD l0) ∧ (true = true → 2 + List.getD l0 (Int.toNat 1) 0 = needD l0)))))))) ∧ (¬0 < (l0.length : Int) → ((l0.length : Int) < 2 → true = decide (0 ≤ needD l0) ∧
 (true = true → 2 = needD l0)) ∧ (¬(l0.length : Int) < 2 → (0 : Int) ≤ 0 ∧ 0 < (l0.length : Int) ∧ (0 : Int) ≤ 1 ∧ 1 < (l0.length : Int) ∧ (40 < List.getD l0 (Int.toNat 1) 0 → false = decide (0 ≤ needD l0) ∧ (false = true → 0 = needD l0)) ∧
 (¬40 < List.getD l0 (Int.toNat 1) 0 → (List.getD l0 (Int.toNat 0) (0 : Int) = 2 → (List.getD l0 (Int.toNat 1) (0 : Int) = 0 → false = decide (0 ≤ needD l0) ∧ (false = true → 0 = needD l0)) ∧ (¬List.getD l0 (Int.toNat 1) (0 : Int) = 0 →
 (List.getD l0 (Int.toNat 0) (0 : Int) = 1 → ((-9223372036854775808 : Int) ≤ 2 * List.getD l0 (Int.toNat 1) 0 ∧ 2 * List.getD l0 (Int.toNat 1) (0 : Int) ≤ (9223372036854775807 : Int)) ∧ ((-9223372036854775808 : Int) ≤ 2 + 2 * List.getD l0
 (Int.toNat 1) 0 ∧ 2 + 2 * List.getD l0 (Int.toNat 1) (0 : Int) ≤ (9223372036854775807 : Int)) ∧ true = decide (0 ≤ needD l0) ∧ (true = true → 2 + 2 * List.getD l0 (Int.toNat 1) 0 = needD l0)) ∧ (¬List.getD l0 (Int.toNat 0) (0 : Int) = 1 →
 (List.getD l0 (Int.toNat 0) (0 : Int) = 2 → ((l0.length : Int) < 6 → true = decide (0 ≤ needD l0) ∧ (true = true → 6 = needD l0)) ∧ (¬(l0.length : Int) < 6 → (0 : Int) ≤ 2 ∧ (2 : Int) ≤ 6 ∧ 6 ≤ (l0.length : Int) ∧ ((↑(List.length (List.drop
 (Int.toNat 2) (List.take (Int.toNat 6) l0))) : Int) ≤ 1000 ∧ allIn 0 255 (List.drop (Int.toNat 2) (List.take (Int.toNat 6) l0)) = true) ∧ ∀ (l17 : List Int), l17 = unlens (List.drop (Int.toNat 2) (List.take (Int.toNat 6) l0)) → (l17.length :
 Int) ≤ 1099511627776 ∧ ∀ (l18 : List Int), l18 = codesD l17 ∧ (l18.length : Int) ≤ 8 → ((l18.length : Int) = 0 → false = decide (0 ≤ needD l0) ∧ (false = true → 0 = needD l0)) ∧ (¬(l18.length : Int) = 0 → (0 : Int) ≤ 6 ∧ 6 ≤ (l0.length :
 Int) ∧ ((↑(List.length (List.drop (Int.toNat 6) l0)) : Int) ≤ 1099511627776 ∧ allIn 0 255 (List.drop (Int.toNat 6) l0) = true) ∧ ∀ (l19 : List Int), l19 = bitsB (List.take 40 (List.drop (Int.toNat 6) l0)) → ∃ (I20 : Int → Int → Prop), ∃ (m21
 : Int → Int → Nat), I20 0 0 ∧ ∀ (n22 n23 : Int), I20 n22 n23 → (n23 < List.getD l0 (Int.toNat 1) 0 → (bitsIn l19 = true ∧ lensOk l17 = true ∧ l18 = codesD l17 ∧ 0 ≤ n22 ∧ n22 ≤ (l19.length : Int)) ∧ ∀ (n24 : Int), n24 = symAt l17 l19 n22 →
 (n24 < 0 → (-9223372036854775808 ≤ (l0.length : Int) + 1 ∧ (l0.length : Int) + (1 : Int) ≤ (9223372036854775807 : Int)) ∧ (-9223372036854775808 ≤ (l19.length : Int) - n22 ∧ (l19.length : Int) - n22 ≤ (9223372036854775807 : Int)) ∧
 ((l19.length : Int) - n22 < 8 → true = decide (0 ≤ needD l0) ∧ (true = true → (l0.length : Int) + 1 = needD l0)) ∧ (¬(l19.length : Int) - n22 < 8 → false = decide (0 ≤ needD l0) ∧ (false = true → (l0.length : Int) + 1 = needD l0))) ∧ (¬n24 <
 0 → 0 ≤ n24 ∧ n24 < (l17.length : Int) ∧ n24.toNat < l17.length ∧ (-9223372036854775808 ≤ n22 + List.getD l17 (n24.toNat) 0 ∧ n22 + List.getD l17 (n24.toNat) (0 : Int) ≤ (9223372036854775807 : Int)) ∧ (-9223372036854775808 ≤ n23 + 1 ∧ n23 +
 (1 : Int) ≤ (9223372036854775807 : Int)) ∧ I20 (n22 + List.getD l17 (n24.toNat) 0) (n23 + 1) ∧ m21 (n22 + List.getD l17 (n24.toNat) 0) (n23 + 1) < m21 n22 n23)) ∧ (¬n23 < List.getD l0 (Int.toNat 1) 0 → (-9223372036854775808 ≤ n22 + 7 ∧ n22 +
 (7 : Int) ≤ (9223372036854775807 : Int)) ∧ 0 ≤ n22 + 7 ∧ (0 : Int) < 8 ∧ (-9223372036854775808 ≤ (n22 + 7) / 8 ∧ (n22 + 7) / (8 : Int) ≤ (9223372036854775807 : Int)) ∧ ((-9223372036854775808 : Int) ≤ 6 + (n22 + 7) / 8 ∧ 6 + (n22 + 7) / (8 :
 Int) ≤ (9223372036854775807 : Int)) ∧ true = decide (0 ≤ needD l0) ∧ (true = true → 6 + (n22 + 7) / 8 = needD l0))))) ∧ (¬List.getD l0 (Int.toNat 0) (0 : Int) = 2 → ((-9223372036854775808 : Int) ≤ 2 + List.getD l0 (Int.toNat 1) 0 ∧ 2 +
 List.getD l0 (Int.toNat 1) (0 : Int) ≤ (9223372036854775807 : Int)) ∧ true = decide (0 ≤ needD l0) ∧ (true = true → 2 + List.getD l0 (Int.toNat 1) 0 = needD l0))))) ∧ (¬List.getD l0 (Int.toNat 0) (0 : Int) = 2 → (List.getD l0 (Int.toNat 0)
 (0 : Int) = 1 → ((-9223372036854775808 : Int) ≤ 2 * List.getD l0 (Int.toNat 1) 0 ∧ 2 * List.getD l0 (Int.toNat 1) (0 : Int) ≤ (9223372036854775807 : Int)) ∧ ((-9223372036854775808 : Int) ≤ 2 + 2 * List.getD l0 (Int.toNat 1) 0 ∧ 2 + 2 *
 List.getD l0 (Int.toNat 1) (0 : Int) ≤ (9223372036854775807 : Int)) ∧ true = decide (0 ≤ needD l0) ∧ (true = true → 2 + 2 * List.getD l0 (Int.toNat 1) 0 = needD l0)) ∧ (¬List.getD l0 (Int.toNat 0) (0 : Int) = 1 → (List.getD l0 (Int.toNat 0)
 (0 : Int) = 2 → ((l0.length : Int) < 6 → true = decide (0 ≤ needD l0) ∧ (true = true → 6 = needD l0)) ∧ (¬(l0.length : Int) < 6 → (0 : Int) ≤ 2 ∧ (2 : Int) ≤ 6 ∧ 6 ≤ (l0.length : Int) ∧ ((↑(List.length (List.drop (Int.toNat 2) (List.take
 (Int.toNat 6) l0))) : Int) ≤ 1000 ∧ allIn 0 255 (List.drop (Int.toNat 2) (List.take (Int.toNat 6) l0)) = true) ∧ ∀ (l25 : List Int), l25 = unlens (List.drop (Int.toNat 2) (List.take (Int.toNat 6) l0)) → (l25.length : Int) ≤ 1099511627776 ∧ ∀
 (l26 : List Int), l26 = codesD l25 ∧ (l26.length : Int) ≤ 8 → ((l26.length : Int) = 0 → false = decide (0 ≤ needD l0) ∧ (false = true → 0 = needD l0)) ∧ (¬(l26.length : Int) = 0 → (0 : Int) ≤ 6 ∧ 6 ≤ (l0.length : Int) ∧ ((↑(List.length
 (List.drop (Int.toNat 6) l0)) : Int) ≤ 1099511627776 ∧ allIn 0 255 (List.drop (Int.toNat 6) l0) = true) ∧ ∀ (l27 : List Int), l27 = bitsB (List.take 40 (List.drop (Int.toNat 6) l0)) → ∃ (I28 : Int → Int → Prop), ∃ (m29 : Int → Int → Nat),
 I28 0 0 ∧ ∀ (n30 n31 : Int), I28 n30 n31 → (n31 < List.getD l0 (Int.toNat 1) 0 → (bitsIn l27 = true ∧ lensOk l25 = true ∧ l26 = codesD l25 ∧ 0 ≤ n30 ∧ n30 ≤ (l27.length : Int)) ∧ ∀ (n32 : Int), n32 = symAt l25 l27 n30 → (n32 < 0 →
 (-9223372036854775808 ≤ (l0.length : Int) + 1 ∧ (l0.length : Int) + (1 : Int) ≤ (9223372036854775807 : Int)) ∧ (-9223372036854775808 ≤ (l27.length : Int) - n30 ∧ (l27.length : Int) - n30 ≤ (9223372036854775807 : Int)) ∧ ((l27.length : Int) -
 n30 < 8 → true = decide (0 ≤ needD l0) ∧ (true = true → (l0.length : Int) + 1 = needD l0)) ∧ (¬(l27.length : Int) - n30 < 8 → false = decide (0 ≤ needD l0) ∧ (false = true → (l0.length : Int) + 1 = needD l0))) ∧ (¬n32 < 0 → 0 ≤ n32 ∧ n32 <
 (l25.length : Int) ∧ n32.toNat < l25.length ∧ (-9223372036854775808 ≤ n30 + List.getD l25 (n32.toNat) 0 ∧ n30 + List.getD l25 (n32.toNat) (0 : Int) ≤ (9223372036854775807 : Int)) ∧ (-9223372036854775808 ≤ n31 + 1 ∧ n31 + (1 : Int) ≤
 (9223372036854775807 : Int)) ∧ I28 (n30 + List.getD l25 (n32.toNat) 0) (n31 + 1) ∧ m29 (n30 + List.getD l25 (n32.toNat) 0) (n31 + 1) < m29 n30 n31)) ∧ (¬n31 < List.getD l0 (Int.toNat 1) 0 → (-9223372036854775808 ≤ n30 + 7 ∧ n30 + (7 : Int) ≤
 (9223372036854775807 : Int)) ∧ 0 ≤ n30 + 7 ∧ (0 : Int) < 8 ∧ (-9223372036854775808 ≤ (n30 + 7) / 8 ∧ (n30 + 7) / (8 : Int) ≤ (9223372036854775807 : Int)) ∧ ((-9223372036854775808 : Int) ≤ 6 + (n30 + 7) / 8 ∧ 6 + (n30 + 7) / (8 : Int) ≤
 (9223372036854775807 : Int)) ∧ true = decide (0 ≤ needD l0) ∧ (true = true → 6 + (n30 + 7) / 8 = needD l0))))) ∧ (¬List.getD l0 (Int.toNat 0) (0 : Int) = 2 → ((-9223372036854775808 : Int) ≤ 2 + List.getD l0 (Int.toNat 1) 0 ∧ 2 + List.getD l0
 (Int.toNat 1) (0 : Int) ≤ (9223372036854775807 : Int)) ∧ true = decide (0 ≤ needD l0) ∧ (true = true → 2 + List.getD l0 (Int.toNat 1) 0 = needD l0)))))))
theorem v_i_needed : V_i_needed := by
  unfold V_i_needed
  rintro b ⟨hz, hin⟩
  have e0 : b.getD (Int.toNat 0) 0 = b.getD 0 0 := rfl
  have e1 : b.getD (Int.toNat 1) 0 = b.getD 1 0 := rfl
  have e2 : Int.toNat 2 = 2 := rfl
  have e6 : Int.toNat 6 = 6 := rfl
  rw [e0, e1, e2, e6]
  have hcut : (b.take 6).drop 2 = (b.drop 2).take 4 := by rw [List.drop_take]
  rw [hcut]
  have bad : needD b < 0 → ∀ x, false = decide (0 ≤ needD b) ∧ (false = true → x = needD b) := fun h x => ⟨by rw [decide_eq_false (by omega)], fun q => by cases q⟩
  have good : ∀ x, needD b = x → 0 ≤ x → true = decide (0 ≤ needD b) ∧ (true = true → x = needD b) := fun x h h0 => ⟨by rw [decide_eq_true (by omega)], fun _ => h.symm⟩
  have hdef : needD b = if b.length = 0 then 2
      else if 3 < b.getD 0 0 then -1
      else if b.length < 2 then 2
      else if 40 < b.getD 1 0 ∨ (b.getD 0 0 = 2 ∧ b.getD 1 0 = 0) then -1
      else if b.getD 0 0 = 1 then 2 + 2 * b.getD 1 0
      else if b.getD 0 0 = 2 then needP b
      else 2 + b.getD 1 0 := rfl
  refine ⟨fun h0 => ⟨by omega, h0, ?_⟩, fun h0 => ⟨fun _ => good 2 (by rw [hdef, if_pos (by omega)]) (by omega), fun q => absurd (by omega) q⟩⟩
  rw [if_neg (by omega)] at hdef
  refine ⟨fun k0 => bad (by rw [hdef, if_pos k0]; omega) _, fun k0 => ?_⟩
  rw [if_neg k0] at hdef
  refine ⟨fun h2 => good 2 (by rw [hdef, if_pos (by omega)]) (by omega), fun h2 => ?_⟩
  rw [if_neg (by omega)] at hdef
  have hn := allIn_iff.1 hin _ (at_mem (i := 1) (by omega) (by omega))
  rw [e1] at hn
  refine ⟨by omega, by omega, by omega, by omega, fun k1 => bad (by rw [hdef, if_pos (.inl k1)]; omega) _, fun k1 => ⟨fun w2 => ⟨fun z => bad (by rw [hdef, if_pos (.inr ⟨w2, z⟩)]; omega) _, fun z => ⟨fun w1 => by omega, fun w1 => ⟨fun _ => ?_, fun q => absurd w2 q⟩⟩⟩, fun w2 => ?_⟩⟩
  · rw [if_neg (by omega), if_neg w1, if_pos w2] at hdef
    unfold needP at hdef
    refine ⟨fun h6 => good 6 (by rw [hdef, if_pos (by omega)]) (by omega), fun h6 => ⟨by omega, by omega, by omega, ⟨by simp; omega, allIn_take 4 (allIn_drop 2 hin)⟩, ?_⟩⟩
    rw [if_neg (by omega)] at hdef
    have hul := unlens_len ((b.drop 2).take 4)
    have htl : ((b.drop 2).take 4).length ≤ 4 := by simp; omega
    rintro ls rfl
    generalize unlens ((b.drop 2).take 4) = ls at *
    refine ⟨by omega, ?_⟩
    rintro cs ⟨rfl, hcl⟩
    refine ⟨fun hc => bad ?_ _, fun hc => ⟨by omega, by omega, ⟨by simp; omega, allIn_drop 6 hin⟩, ?_⟩⟩
    · have : ¬ lensOk ls = true := fun h => by have := codesD_len h; omega
      rw [hdef, if_neg this]; omega
    have h : lensOk ls = true := by
      by_cases q : lensOk ls = true
      · exact q
      · have : codesD ls = [] := if_neg q
        rw [this] at hc; simp at hc
    have hls := h
    simp only [lensOk, Bool.and_eq_true] at hls
    have hls := lensIn_iff.1 hls.1
    rw [if_pos h, ← walk_cut h (allIn_drop 6 hin) (b.getD 1 0).toNat 0 (by omega) (by omega)] at hdef
    rintro bs rfl
    have hbl : (bitsB ((b.drop 6).take 40)).length ≤ 320 := by rw [bitsB_len, List.length_take]; omega
    have hbin : bitsIn (bitsB ((b.drop 6).take 40)) = true := by
      simp only [bitsIn, Bool.and_eq_true, decide_eq_true_eq]
      exact ⟨by omega, bitsB_in (allIn_take 40 (allIn_drop 6 hin))⟩
    generalize bitsB ((b.drop 6).take 40) = bs at *
    generalize b.getD 1 0 = n at *
    refine ⟨fun a i => 0 ≤ i ∧ i ≤ n ∧ 0 ≤ a ∧ a ≤ bs.length ∧ walkB ls bs b.length (n - i).toNat a = needD b, fun a i => (n - i).toNat, ?_, ?_⟩ <;> dsimp only
    · exact ⟨by omega, by omega, by omega, by omega, by rw [Int.sub_zero]; exact hdef.symm⟩
    rintro a i ⟨i0, i1, a0, a1, hI⟩
    refine ⟨fun hi => ⟨⟨hbin, h, rfl, a0, a1⟩, ?_⟩, fun hi => ?_⟩
    · rw [show (n - i).toNat = (n - (i + 1)).toNat + 1 by omega, walkB] at hI
      rintro s rfl
      refine ⟨fun hs => ⟨by omega, by omega, fun h8 => ?_, fun h8 => ?_⟩, fun hs => ?_⟩
      · rw [if_pos hs, if_neg (by omega)] at hI
        exact good _ hI.symm (by omega)
      · rw [if_pos hs, if_pos (by omega)] at hI
        exact bad (by omega) _
      · rw [if_neg hs] at hI
        rcases symAt_cases ls bs a with ⟨q1, _⟩ | ⟨q1, q2, q3⟩
        · omega
        · obtain ⟨p1, p2, p3⟩ := hits_iff.1 q3
          have hx := hls.2 _ (at_mem q1 (by omega : symAt ls bs a < (ls.length : Int)))
          exact ⟨q1, by omega, by omega, by omega, by omega, ⟨by omega, by omega, by omega, by omega, hI⟩, by omega⟩
    · rw [show (n - i).toNat = 0 by omega, walkB] at hI
      exact ⟨by omega, by omega, by omega, by omega, by omega, good _ hI.symm (by omega)⟩
  · refine ⟨fun w1 => ⟨by omega, by omega, good _ (by rw [hdef, if_neg (by omega), if_pos w1]) (by omega)⟩, fun w1 => ⟨fun q => absurd q w2, fun _ => ⟨by omega, good _ (by rw [hdef, if_neg (by omega), if_neg w1, if_neg w2]) (by omega)⟩⟩⟩
def V_s_l21NeedPrefix : Prop :=
  ∀ (l0 : List Int), (l0.length : Int) ≤ 1099511627776 ∧ allIn 0 255 l0 = true ∧ 2 ≤ (l0.length : Int) ∧ List.getD l0 1 (0 : Int) ≤ 40 → (0 : Int) ≤ 1 ∧ 1 < (l0.length : Int) ∧ (List.getD l0 (Int.toNat 1) (0 : Int) = 0 → -1 = if List.getD l0 1
 (0 : Int) = 0 then -1 else needP l0) ∧ (¬List.getD l0 (Int.toNat 1) (0 : Int) = 0 → ((l0.length : Int) < 6 → 6 = if List.getD l0 1 (0 : Int) = 0 then -1 else needP l0) ∧ (¬(l0.length : Int) < 6 → ∃ (I1 : List Int → Int → Prop), ∃ (m2 : List
 Int → Int → Nat), I1 [] 2 ∧ ∀ (l3 : List Int) (n4 : Int), I1 l3 n4 → (n4 < 6 → 0 ≤ n4 ∧ n4 < (l0.length : Int) ∧ 0 ≤ List.getD l0 (n4.toNat) 0 ∧ (0 : Int) < 16 ∧ (-9223372036854775808 ≤ List.getD l0 (n4.toNat) 0 / 16 ∧ List.getD l0
 (n4.toNat) 0 / (16 : Int) ≤ (9223372036854775807 : Int)) ∧ 0 ≤ n4 ∧ n4 < (l0.length : Int) ∧ 0 ≤ List.getD l0 (n4.toNat) 0 ∧ (0 : Int) < 16 ∧ (↑(l3.length + List.length [List.getD l0 (n4.toNat) 0 / 16, List.getD l0 (n4.toNat) 0 % 16]) : Int)
 ≤ 1099511627776 ∧ (-9223372036854775808 ≤ n4 + 1 ∧ n4 + (1 : Int) ≤ (9223372036854775807 : Int)) ∧ I1 (l3 ++ [List.getD l0 (n4.toNat) 0 / 16, List.getD l0 (n4.toNat) 0 % 16]) (n4 + 1) ∧ m2 (l3 ++ [List.getD l0 (n4.toNat) 0 / 16, List.getD l0
 (n4.toNat) 0 % 16]) (n4 + 1) < m2 l3 n4) ∧ (¬n4 < 6 → (l3.length : Int) ≤ 1099511627776 ∧ (true = lensOk l3 → (l3.length : Int) ≤ 1099511627776 ∧ ∀ (l5 : List Int), l5 = codesD l3 ∧ (l5.length : Int) ≤ 8 → ∃ (I6 : List Int → Int → Prop), ∃
 (m7 : List Int → Int → Nat), I6 [] 6 ∧ ∀ (l8 : List Int) (n9 : Int), I6 l8 n9 → (n9 < (l0.length : Int) → (-9223372036854775808 ≤ (l8.length : Int) + 8 ∧ (l8.length : Int) + (8 : Int) ≤ (9223372036854775807 : Int)) ∧ ((l8.length : Int) + (8
 : Int) ≤ 600 → 0 ≤ n9 ∧ n9 < (l0.length : Int) ∧ (0 ≤ List.getD l0 (n9.toNat) 0 ∧ List.getD l0 (n9.toNat) (0 : Int) ≤ 100000000 ∧ (0 : Int) ≤ 8 ∧ (8 : Int) ≤ 16) ∧ ∀ (l10 : List Int), l10 = bitsOf (Int.toNat 8) (List.getD l0 (n9.toNat) 0) →
 (↑(l8.length + l10.length) : Int) ≤ 1099511627776 ∧ (-9223372036854775808 ≤ n9 + 1 ∧ n9 + (1 : Int) ≤ (9223372036854775807 : Int)) ∧ I6 (l8 ++ l10) (n9 + 1) ∧ m7 (l8 ++ l10) (n9 + 1) < m7 l8 n9) ∧ (¬(l8.length : Int) + (8 : Int) ≤ 600 → ∃
 (I11 : Int → Int → Prop), ∃ (m12 : Int → Int → Nat), I11 0 0 ∧ ∀ (n13 n14 : Int), I11 n13 n14 → (0 : Int) ≤ 1 ∧ 1 < (l0.length : Int) ∧ (n14 < List.getD l0 (Int.toNat 1) 0 → (bitsIn l8 = true ∧ lensOk l3 = true ∧ l5 = codesD l3 ∧ 0 ≤ n13 ∧
 n13 ≤ (l8.length : Int)) ∧ ∀ (n15 : Int), n15 = symAt l3 l8 n13 → (n15 < 0 → (-9223372036854775808 ≤ n13 + 8 ∧ n13 + (8 : Int) ≤ (9223372036854775807 : Int)) ∧ (n13 + 8 ≤ (l8.length : Int) → -1 = if List.getD l0 1 (0 : Int) = 0 then -1 else
 needP l0) ∧ (¬n13 + 8 ≤ (l8.length : Int) → (n15 < 0 → (-9223372036854775808 ≤ (l0.length : Int) + 1 ∧ (l0.length : Int) + (1 : Int) ≤ (9223372036854775807 : Int)) ∧ (l0.length : Int) + 1 = if List.getD l0 1 (0 : Int) = 0 then -1 else needP
 l0) ∧ (¬n15 < 0 → 0 ≤ n15 ∧ n15 < (l3.length : Int) ∧ n15.toNat < l3.length ∧ (-9223372036854775808 ≤ n13 + List.getD l3 (n15.toNat) 0 ∧ n13 + List.getD l3 (n15.toNat) (0 : Int) ≤ (9223372036854775807 : Int)) ∧ (-9223372036854775808 ≤ n14 +
 1 ∧ n14 + (1 : Int) ≤ (9223372036854775807 : Int)) ∧ I11 (n13 + List.getD l3 (n15.toNat) 0) (n14 + 1) ∧ m12 (n13 + List.getD l3 (n15.toNat) 0) (n14 + 1) < m12 n13 n14))) ∧ (¬n15 < 0 → (n15 < 0 → (-9223372036854775808 ≤ (l0.length : Int) + 1
 ∧ (l0.length : Int) + (1 : Int) ≤ (9223372036854775807 : Int)) ∧ (l0.length : Int) + 1 = if List.getD l0 1 (0 : Int) = 0 then -1 else needP l0) ∧ (¬n15 < 0 → 0 ≤ n15 ∧ n15 < (l3.length : Int) ∧ n15.toNat < l3.length ∧ (-9223372036854775808 ≤
 n13 + List.getD l3 (n15.toNat) 0 ∧ n13 + List.getD l3 (n15.toNat) (0 : Int) ≤ (9223372036854775807 : Int)) ∧ (-9223372036854775808 ≤ n14 + 1 ∧ n14 + (1 : Int) ≤ (9223372036854775807 : Int)) ∧ I11 (n13 + List.getD l3 (n15.toNat) 0) (n14 + 1)
 ∧ m12 (n13 + List.getD l3 (n15.toNat) 0) (n14 + 1) < m12 n13 n14))) ∧ (¬n14 < List.getD l0 (Int.toNat 1) 0 → (-9223372036854775808 ≤ n13 + 7 ∧ n13 + (7 : Int) ≤ (9223372036854775807 : Int)) ∧ 0 ≤ n13 + 7 ∧ (0 : Int) < 8 ∧
 (-9223372036854775808 ≤ (n13 + 7) / 8 ∧ (n13 + 7) / (8 : Int) ≤ (9223372036854775807 : Int)) ∧ ((-9223372036854775808 : Int) ≤ 6 + (n13 + 7) / 8 ∧ 6 + (n13 + 7) / (8 : Int) ≤ (9223372036854775807 : Int)) ∧ 6 + (n13 + 7) / 8 = if List.getD l0
 1 (0 : Int) = 0 then -1 else needP l0))) ∧ (¬n9 < (l0.length : Int) → ∃ (I16 : Int → Int → Prop), ∃ (m17 : Int → Int → Nat), I16 0 0 ∧ ∀ (n18 n19 : Int), I16 n18 n19 → (0 : Int) ≤ 1 ∧ 1 < (l0.length : Int) ∧ (n19 < List.getD l0 (Int.toNat 1)
 0 → (bitsIn l8 = true ∧ lensOk l3 = true ∧ l5 = codesD l3 ∧ 0 ≤ n18 ∧ n18 ≤ (l8.length : Int)) ∧ ∀ (n20 : Int), n20 = symAt l3 l8 n18 → (n20 < 0 → (-9223372036854775808 ≤ n18 + 8 ∧ n18 + (8 : Int) ≤ (9223372036854775807 : Int)) ∧ (n18 + 8 ≤
 (l8.length : Int) → -1 = if List.getD l0 1 (0 : Int) = 0 then -1 else needP l0) ∧ (¬n18 + 8 ≤ (l8.length : Int) → (n20 < 0 → (-9223372036854775808 ≤ (l0.length : Int) + 1 ∧ (l0.length : Int) + (1 : Int) ≤ (9223372036854775807 : Int)) ∧
 (l0.length : Int) + 1 = if List.getD l0 1 (0 : Int) = 0 then -1 else needP l0) ∧ (¬n20 < 0 → 0 ≤ n20 ∧ n20 < (l3.length : Int) ∧ n20.toNat < l3.length ∧ (-9223372036854775808 ≤ n18 + List.getD l3 (n20.toNat) 0 ∧ n18 + List.getD l3
 (n20.toNat) (0 : Int) ≤ (9223372036854775807 : Int)) ∧ (-9223372036854775808 ≤ n19 + 1 ∧ n19 + (1 : Int) ≤ (9223372036854775807 : Int)) ∧ I16 (n18 + List.getD l3 (n20.toNat) 0) (n19 + 1) ∧ m17 (n18 + List.getD l3 (n20.toNat) 0) (n19 + 1) <
 m17 n18 n19))) ∧ (¬n20 < 0 → (n20 < 0 → (-9223372036854775808 ≤ (l0.length : Int) + 1 ∧ (l0.length : Int) + (1 : Int) ≤ (9223372036854775807 : Int)) ∧ (l0.length : Int) + 1 = if List.getD l0 1 (0 : Int) = 0 then -1 else needP l0) ∧ (¬n20 < 0
 → 0 ≤ n20 ∧ n20 < (l3.length : Int) ∧ n20.toNat < l3.length ∧ (-9223372036854775808 ≤ n18 + List.getD l3 (n20.toNat) 0 ∧ n18 + List.getD l3 (n20.toNat) (0 : Int) ≤ (9223372036854775807 : Int)) ∧ (-9223372036854775808 ≤ n19 + 1 ∧ n19 + (1 :
 Int) ≤ (9223372036854775807 : Int)) ∧ I16 (n18 + List.getD l3 (n20.toNat) 0) (n19 + 1) ∧ m17 (n18 + List.getD l3 (n20.toNat) 0) (n19 + 1) < m17 n18 n19))) ∧ (¬n19 < List.getD l0 (Int.toNat 1) 0 → (-9223372036854775808 ≤ n18 + 7 ∧ n18 + (7 :
 Int) ≤ (9223372036854775807 : Int)) ∧ 0 ≤ n18 + 7 ∧ (0 : Int) < 8 ∧ (-9223372036854775808 ≤ (n18 + 7) / 8 ∧ (n18 + 7) / (8 : Int) ≤ (9223372036854775807 : Int)) ∧ ((-9223372036854775808 : Int) ≤ 6 + (n18 + 7) / 8 ∧ 6 + (n18 + 7) / (8 : Int)
 ≤ (9223372036854775807 : Int)) ∧ 6 + (n18 + 7) / 8 = if List.getD l0 1 (0 : Int) = 0 then -1 else needP l0))) ∧ (false = lensOk l3 → -1 = if List.getD l0 1 (0 : Int) = 0 then -1 else needP l0))))
theorem v_s_l21NeedPrefix : V_s_l21NeedPrefix := by
  unfold V_s_l21NeedPrefix
  rintro b ⟨hz, hin, h2, h40⟩
  have e1 : b.getD (Int.toNat 1) 0 = b.getD 1 0 := rfl
  have hn := allIn_iff.1 hin _ (at_mem (i := 1) (by omega) (by omega))
  rw [e1] at hn ⊢
  refine ⟨by omega, by omega, fun z => by rw [if_pos z], fun z => ?_⟩
  rw [if_neg z]
  refine ⟨fun h6 => by unfold needP; rw [if_pos (by omega)], fun h6 => ?_⟩
  have hdef : needP b = if lensOk (unlens ((b.drop 2).take 4)) = true then walkB (unlens ((b.drop 2).take 4)) (bitsB ((b.drop 6).take 75)) b.length (b.getD 1 0).toNat 0 else -1 := if_neg (by omega)
  have hget : ∀ k : Nat, b.getD (2 + k) 0 = (b.drop 2).getD k 0 := fun k => (drop2_get b k).symm
  have hgX : ∀ k : Nat, (b.drop 6).getD k 0 = b.getD (6 + k) 0 := fun k => by simp [List.getD_eq_getElem?_getD, List.getElem?_drop]
  have hXin := allIn_drop 6 hin
  have hXl : ((b.drop 6).length : Int) = b.length - 6 := by simp; omega
  have hRl : ((b.drop 2).length : Int) = b.length - 2 := by simp; omega
  generalize b.drop 6 = X at *
  generalize b.drop 2 = R at *
  generalize b.getD 1 0 = n at *
  refine ⟨fun ls i => 2 ≤ i ∧ i ≤ 6 ∧ ls = unlens (R.take (i - 2).toNat), fun ls i => (6 - i).toNat, ?_, ?_⟩ <;> dsimp only
  · exact ⟨by omega, by omega, rfl⟩
  rintro ls i ⟨i0, i1, rfl⟩
  have hul := unlens_len (R.take (i - 2).toNat)
  have htl := List.length_take (i := (i - 2).toNat) (l := R)
  refine ⟨fun hi => ?_, fun hi => ?_⟩
  · have hst := unlens_step (b := R) (i := i - 2) (by omega) (by omega)
    rw [← hget, show 2 + (i - 2).toNat = i.toNat by omega, show i - 2 + 1 = i + 1 - 2 by omega] at hst
    have hx := allIn_iff.1 hin _ (at_mem (i := i) (by omega) (by omega))
    exact ⟨by omega, by omega, by omega, by omega, by omega, by omega, by omega, by omega, by omega, by simp only [List.length_cons, List.length_nil]; omega, by omega, ⟨by omega, by omega, hst.symm⟩, by omega⟩
  · rw [show (i - 2).toNat = 4 by omega] at hul ⊢
    clear htl i0 i1 hi i
    have htl : (R.take 4).length ≤ 4 := by simp; omega
    generalize unlens (R.take 4) = ls at *
    refine ⟨by omega, fun h => ⟨by omega, ?_⟩, fun h => by rw [hdef, ← h]; rfl⟩
    replace h := h.symm
    rw [if_pos h] at hdef
    have hls := h
    simp only [lensOk, Bool.and_eq_true] at hls
    have hls := lensIn_iff.1 hls.1
    rintro cs ⟨rfl, hcl⟩
    refine ⟨fun bs i => 6 ≤ i ∧ i ≤ 81 ∧ i ≤ b.length ∧ bs = bitsB (X.take (i - 6).toNat), fun bs i => (b.length - i).toNat, ?_, ?_⟩ <;> dsimp only
    · exact ⟨by omega, by omega, by omega, rfl⟩
    rintro bs i ⟨i0, i1, i2, rfl⟩
    have hbl := bitsB_len (X.take (i - 6).toNat)
    have htl : ((X.take (i - 6).toNat).length : Int) = i - 6 := by rw [List.length_take]; omega
    have hfin : (i = 81 ∨ ¬ i < (b.length : Int)) → bitsB (X.take (i - 6).toNat) = bitsB (X.take 75) := fun h => by
      rcases h with h | h
      · rw [show (i - 6).toNat = 75 by omega]
      · rw [List.take_of_length_le (by omega), List.take_of_length_le (by omega)]
    have hbin : bitsIn (bitsB (X.take (i - 6).toNat)) = true := by
      simp only [bitsIn, Bool.and_eq_true, decide_eq_true_eq]
      exact ⟨by omega, bitsB_in (allIn_take _ hXin)⟩
    refine ⟨fun hi => ⟨by omega, fun hs => ?_, fun hs => ?_⟩, fun hi => ?_⟩
    · have hx := allIn_iff.1 hin _ (at_mem (i := i) (by omega) hi)
      have hst := bitsB_step (b := X) (i := i - 6) (by omega) (by omega)
      rw [show i - 6 + 1 = i + 1 - 6 by omega, hgX (i - 6).toNat, show 6 + (i - 6).toNat = i.toNat by omega] at hst
      refine ⟨by omega, hi, ⟨hx.1, by omega, by omega, by omega⟩, ?_⟩
      rintro y rfl
      exact ⟨by rw [bitsOf_len]; omega, by omega, ⟨by omega, by omega, by omega, hst.symm⟩, by omega⟩
    · rw [← hfin (.inl (by omega))] at hdef
      generalize bitsB (X.take (i - 6).toNat) = bs at *
      refine ⟨fun a k => 0 ≤ k ∧ k ≤ n ∧ 0 ≤ a ∧ a ≤ bs.length ∧ walkB ls bs b.length (n - k).toNat a = needP b, fun a k => (n - k).toNat, ?_, ?_⟩ <;> dsimp only
      · exact ⟨by omega, by omega, by omega, by omega, by rw [Int.sub_zero]; exact hdef.symm⟩
      rintro a k ⟨k0, k1, a0, a1, hI⟩
      refine ⟨by omega, by omega, fun hk => ⟨⟨hbin, h, rfl, a0, a1⟩, ?_⟩, fun hk => ?_⟩
      · rw [show (n - k).toNat = (n - (k + 1)).toNat + 1 by omega, walkB] at hI
        rintro s rfl
        refine ⟨fun hs => ⟨by omega, fun h8 => ?_, fun h8 => ⟨fun _ => ⟨by omega, ?_⟩, fun q => absurd hs q⟩⟩, fun hs => ⟨fun q => absurd q hs, fun _ => ?_⟩⟩
        · rw [if_pos hs, if_pos h8] at hI; exact hI
        · rw [if_pos hs, if_neg h8] at hI; exact hI
        · rw [if_neg hs] at hI
          rcases symAt_cases ls bs a with ⟨q1, _⟩ | ⟨q1, q2, q3⟩
          · omega
          · obtain ⟨p1, p2, p3⟩ := hits_iff.1 q3
            have hx := hls.2 _ (at_mem q1 (by omega : symAt ls bs a < (ls.length : Int)))
            exact ⟨q1, by omega, by omega, by omega, by omega, ⟨by omega, by omega, by omega, by omega, hI⟩, by omega⟩
      · rw [show (n - k).toNat = 0 by omega, walkB] at hI
        exact ⟨by omega, by omega, by omega, by omega, by omega, hI⟩
    · rw [← hfin (.inr hi)] at hdef
      generalize bitsB (X.take (i - 6).toNat) = bs at *
      refine ⟨fun a k => 0 ≤ k ∧ k ≤ n ∧ 0 ≤ a ∧ a ≤ bs.length ∧ walkB ls bs b.length (n - k).toNat a = needP b, fun a k => (n - k).toNat, ?_, ?_⟩ <;> dsimp only
      · exact ⟨by omega, by omega, by omega, by omega, by rw [Int.sub_zero]; exact hdef.symm⟩
      rintro a k ⟨k0, k1, a0, a1, hI⟩
      refine ⟨by omega, by omega, fun hk => ⟨⟨hbin, h, rfl, a0, a1⟩, ?_⟩, fun hk => ?_⟩
      · rw [show (n - k).toNat = (n - (k + 1)).toNat + 1 by omega, walkB] at hI
        rintro s rfl
        refine ⟨fun hs => ⟨by omega, fun h8 => ?_, fun h8 => ⟨fun _ => ⟨by omega, ?_⟩, fun q => absurd hs q⟩⟩, fun hs => ⟨fun q => absurd q hs, fun _ => ?_⟩⟩
        · rw [if_pos hs, if_pos h8] at hI; exact hI
        · rw [if_pos hs, if_neg h8] at hI; exact hI
        · rw [if_neg hs] at hI
          rcases symAt_cases ls bs a with ⟨q1, _⟩ | ⟨q1, q2, q3⟩
          · omega
          · obtain ⟨p1, p2, p3⟩ := hits_iff.1 q3
            have hx := hls.2 _ (at_mem q1 (by omega : symAt ls bs a < (ls.length : Int)))
            exact ⟨q1, by omega, by omega, by omega, by omega, ⟨by omega, by omega, by omega, by omega, hI⟩, by omega⟩
      · rw [show (n - k).toNat = 0 by omega, walkB] at hI
        exact ⟨by omega, by omega, by omega, by omega, by omega, hI⟩
def V_s_l21Need : Prop :=
  ∀ (l0 : List Int), (l0.length : Int) ≤ 1099511627776 ∧ allIn 0 255 l0 = true → ((l0.length : Int) = 0 → 1 = if (l0.length : Int) = 0 then 1 else needD l0) ∧ (¬(l0.length : Int) = 0 → (0 : Int) ≤ 0 ∧ 0 < (l0.length : Int) ∧ (3 < List.getD l0
 (Int.toNat 0) 0 → -1 = if (l0.length : Int) = 0 then 1 else needD l0) ∧ (¬3 < List.getD l0 (Int.toNat 0) 0 → ((l0.length : Int) = 1 → 2 = if (l0.length : Int) = 0 then 1 else needD l0) ∧ (¬(l0.length : Int) = 1 → (0 : Int) ≤ 1 ∧ 1 <
 (l0.length : Int) ∧ (40 < List.getD l0 (Int.toNat 1) 0 → -1 = if (l0.length : Int) = 0 then 1 else needD l0) ∧ (¬40 < List.getD l0 (Int.toNat 1) 0 → (0 : Int) ≤ 0 ∧ 0 < (l0.length : Int) ∧ (List.getD l0 (Int.toNat 0) (0 : Int) = 1 → (0 :
 Int) ≤ 1 ∧ 1 < (l0.length : Int) ∧ ((-9223372036854775808 : Int) ≤ 2 * List.getD l0 (Int.toNat 1) 0 ∧ 2 * List.getD l0 (Int.toNat 1) (0 : Int) ≤ (9223372036854775807 : Int)) ∧ ((-9223372036854775808 : Int) ≤ 2 + 2 * List.getD l0 (Int.toNat
 1) 0 ∧ 2 + 2 * List.getD l0 (Int.toNat 1) (0 : Int) ≤ (9223372036854775807 : Int)) ∧ 2 + 2 * List.getD l0 (Int.toNat 1) 0 = if (l0.length : Int) = 0 then 1 else needD l0) ∧ (¬List.getD l0 (Int.toNat 0) (0 : Int) = 1 → (List.getD l0
 (Int.toNat 0) (0 : Int) = 2 → ((l0.length : Int) ≤ 1099511627776 ∧ allIn 0 255 l0 = true ∧ 2 ≤ (l0.length : Int) ∧ List.getD l0 1 (0 : Int) ≤ 40) ∧ ∀ (n1 : Int), (n1 = if List.getD l0 1 (0 : Int) = 0 then -1 else needP l0) → n1 = if
 (l0.length : Int) = 0 then 1 else needD l0) ∧ (¬List.getD l0 (Int.toNat 0) (0 : Int) = 2 → (0 : Int) ≤ 1 ∧ 1 < (l0.length : Int) ∧ ((-9223372036854775808 : Int) ≤ 2 + List.getD l0 (Int.toNat 1) 0 ∧ 2 + List.getD l0 (Int.toNat 1) (0 : Int) ≤
 (9223372036854775807 : Int)) ∧ 2 + List.getD l0 (Int.toNat 1) 0 = if (l0.length : Int) = 0 then 1 else needD l0))))))
theorem v_s_l21Need : V_s_l21Need := by
  unfold V_s_l21Need
  rintro b ⟨hz, hin⟩
  have e0 : b.getD (Int.toNat 0) 0 = b.getD 0 0 := rfl
  have e1 : b.getD (Int.toNat 1) 0 = b.getD 1 0 := rfl
  rw [e0, e1]
  have hdef : needD b = if b.length = 0 then 2
      else if 3 < b.getD 0 0 then -1
      else if b.length < 2 then 2
      else if 40 < b.getD 1 0 ∨ (b.getD 0 0 = 2 ∧ b.getD 1 0 = 0) then -1
      else if b.getD 0 0 = 1 then 2 + 2 * b.getD 1 0
      else if b.getD 0 0 = 2 then needP b
      else 2 + b.getD 1 0 := rfl
  refine ⟨fun h0 => by rw [if_pos h0], fun h0 => ?_⟩
  rw [if_neg h0]
  rw [if_neg (by omega)] at hdef
  refine ⟨by omega, by omega, fun k0 => by rw [hdef, if_pos k0], fun k0 => ?_⟩
  rw [if_neg k0] at hdef
  refine ⟨fun h2 => by rw [hdef, if_pos (by omega)], fun h2 => ?_⟩
  rw [if_neg (by omega)] at hdef
  have hn := allIn_iff.1 hin _ (at_mem (i := 1) (by omega) (by omega))
  rw [e1] at hn
  refine ⟨by omega, by omega, fun k1 => by rw [hdef, if_pos (.inl k1)], fun k1 => ⟨by omega, by omega, fun w1 => ⟨by omega, by omega, by omega, by omega, by rw [hdef, if_neg (by omega), if_pos w1]⟩, fun w1 => ⟨fun w2 => ⟨⟨hz, hin, by omega, by omega⟩, ?_⟩, fun w2 => ⟨by omega, by omega, by omega, by rw [hdef, if_neg (by omega), if_neg w1, if_neg w2]⟩⟩⟩⟩
  rintro x rfl
  by_cases z : b.getD 1 0 = 0
  · rw [if_pos z, hdef, if_pos (.inr ⟨w2, z⟩)]
  · rw [if_neg z, hdef, if_neg (by omega), if_neg w1, if_pos w2]
def V_i_BlockState : Prop :=
  ∀ (l0 : List Int), (l0.length : Int) ≤ 1099511627776 → (l0.length : Int) ≤ 1099511627776 ∧ (true = allIn 0 255 l0 → ((l0.length : Int) ≤ 1099511627776 ∧ allIn 0 255 l0 = true) ∧ ∀ (n1 : Int), (true = decide (0 ≤ needD l0) ∧ (true = true → n1
 = needD l0) → ((l0.length : Int) < n1 → 0 = stateB l0) ∧ (¬(l0.length : Int) < n1 → (l0.length : Int) ≤ 1099511627776 ∧ ∀ (l2 : List Int) (n3 : Int), (true = Option.isSome (openD l0) ∧ (l2, n3) = Option.getD (openD l0) ([], 0) → 1 = stateB
 l0) ∧ (false = Option.isSome (openD l0) ∧ (l2, n3) = Option.getD (openD l0) ([], 0) → 2 = stateB l0))) ∧ (false = decide (0 ≤ needD l0) ∧ (false = true → n1 = needD l0) → 2 = stateB l0)) ∧ (false = allIn 0 255 l0 → 2 = stateB l0)
theorem v_i_BlockState : V_i_BlockState := by
  unfold V_i_BlockState
  intro b hz
  refine ⟨hz, fun hb => ⟨⟨hz, hb.symm⟩, fun n => ⟨?_, ?_⟩⟩, fun hb => by unfold stateB; rw [← hb]; rfl⟩
  · rintro ⟨h0, hn⟩
    obtain rfl := hn rfl
    simp only [true_eq_decide_iff] at h0
    unfold stateB
    rw [if_pos hb.symm, if_neg (by omega)]
    refine ⟨fun hl => by rw [if_pos hl], fun hl => ⟨hz, fun l m => ⟨?_, ?_⟩⟩⟩
    · rintro ⟨q, _⟩; rw [if_neg hl, ← q]; rfl
    · rintro ⟨q, _⟩; rw [if_neg hl, ← q]; rfl
  · rintro ⟨h0, _⟩
    simp only [false_eq_decide_iff] at h0
    unfold stateB
    rw [if_pos hb.symm, if_pos (by omega)]
def V_s_BlockState : Prop :=
  ∀ (l0 : List Int), (l0.length : Int) ≤ 1099511627776 → (l0.length : Int) ≤ 1099511627776 ∧ (true = allIn 0 255 l0 → ((l0.length : Int) ≤ 1099511627776 ∧ allIn 0 255 l0 = true) ∧ ∀ (n1 : Int), (n1 = if (l0.length : Int) = 0 then 1 else needD
 l0) → (n1 < 0 → 2 = stateB l0) ∧ (¬n1 < 0 → ((l0.length : Int) < n1 → 0 = stateB l0) ∧ (¬(l0.length : Int) < n1 → (l0.length : Int) ≤ 1099511627776 ∧ ∀ (l2 : List Int) (n3 : Int), (true = Option.isSome (openD l0) ∧ (l2, n3) = Option.getD
 (openD l0) ([], 0) → 1 = stateB l0) ∧ (false = Option.isSome (openD l0) ∧ (l2, n3) = Option.getD (openD l0) ([], 0) → 2 = stateB l0)))) ∧ (false = allIn 0 255 l0 → 2 = stateB l0)
theorem v_s_BlockState : V_s_BlockState := by
  unfold V_s_BlockState
  intro b hz
  refine ⟨hz, fun hb => ⟨⟨hz, hb.symm⟩, ?_⟩, fun hb => by unfold stateB; rw [← hb]; rfl⟩
  rintro n rfl
  unfold stateB
  rw [if_pos hb.symm]
  by_cases hl0 : (b.length : Int) = 0
  · have hb0 : b = [] := List.eq_nil_of_length_eq_zero (by omega)
    subst hb0
    exact ⟨fun q => by simp at q, fun _ => ⟨fun _ => rfl, fun q => absurd (by simp) q⟩⟩
  · rw [if_neg hl0]
    refine ⟨fun h => by rw [if_pos h], fun h => ⟨fun hl => by rw [if_neg h, if_pos hl], fun hl => ⟨hz, fun l m => ⟨?_, ?_⟩⟩⟩⟩
    · rintro ⟨q, _⟩; rw [if_neg h, if_neg hl, ← q]; rfl
    · rintro ⟨q, _⟩; rw [if_neg h, if_neg hl, ← q]; rfl
def V_i_StreamValid : Prop :=
  ∀ (l0 l1 : List Int), ((l0.length : Int) ≤ 1099511627776 ∧ (l1.length : Int) ≤ 1099511627776 → (l1.length : Int) ≤ 1099511627776 ∧ (true = textOk l1 → (l0.length : Int) ≤ 1099511627776 ∧ (true = allIn 0 255 l0 → ((l0.length : Int) = 0 → true
 = rdOk l0 l1 true) ∧ (¬(l0.length : Int) = 0 → false = rdOk l0 l1 true)) ∧ (false = allIn 0 255 l0 → false = rdOk l0 l1 true)) ∧ (false = textOk l1 → false = rdOk l0 l1 true)) ∧ ((l0.length : Int) ≤ 1099511627776 ∧ (l1.length : Int) ≤
 1099511627776 → (l1.length : Int) ≤ 1099511627776 ∧ (true = textOk l1 → (l0.length : Int) ≤ 1099511627776 ∧ (true = allIn 0 255 l0 → (l0.length : Int) ≤ 1099511627776 ∧ ∀ (n2 : Int), n2 = stateB l0 → (n2 = 0 → true = rdOk l0 l1 false) ∧ (¬n2
 = 0 → false = rdOk l0 l1 false)) ∧ (false = allIn 0 255 l0 → false = rdOk l0 l1 false)) ∧ (false = textOk l1 → false = rdOk l0 l1 false))
theorem v_i_StreamValid : V_i_StreamValid := by
  unfold V_i_StreamValid
  intro w t
  have hlen : (w.length : Int) = 0 ↔ w = [] := ⟨fun h => List.eq_nil_of_length_eq_zero (by omega), fun h => by rw [h]; rfl⟩
  unfold rdOk
  refine ⟨?_, ?_⟩
  · rintro ⟨h1, h2⟩
    refine ⟨h2, fun ht => ⟨h1, fun hw => ⟨fun h0 => by rw [← ht, ← hw, decide_eq_true (hlen.1 h0)]; rfl, fun h0 => by rw [← ht, ← hw, decide_eq_false (fun q => h0 (hlen.2 q))]; rfl⟩, fun hw => by rw [← ht, ← hw]; rfl⟩, fun ht => by rw [← ht]; rfl⟩
  · rintro ⟨h1, h2⟩
    refine ⟨h2, fun ht => ⟨h1, fun hw => ⟨h1, ?_⟩, fun hw => by rw [← ht, ← hw]; rfl⟩, fun ht => by rw [← ht]; rfl⟩
    rintro n rfl
    exact ⟨fun h0 => by rw [← ht, ← hw, decide_eq_true h0]; rfl, fun h0 => by rw [← ht, ← hw, decide_eq_false h0]; rfl⟩
def V_s_StreamValid : Prop :=
  ∀ (l0 l1 : List Int), ((l0.length : Int) ≤ 1099511627776 ∧ (l1.length : Int) ≤ 1099511627776 → (l1.length : Int) ≤ 1099511627776 ∧ (true = textOk l1 → (l0.length : Int) ≤ 1099511627776 ∧ (true = allIn 0 255 l0 → ((l0.length : Int) = 0 → true
 = rdOk l0 l1 true) ∧ (¬(l0.length : Int) = 0 → false = rdOk l0 l1 true)) ∧ (false = allIn 0 255 l0 → false = rdOk l0 l1 true)) ∧ (false = textOk l1 → false = rdOk l0 l1 true)) ∧ ((l0.length : Int) ≤ 1099511627776 ∧ (l1.length : Int) ≤
 1099511627776 → (l1.length : Int) ≤ 1099511627776 ∧ (true = textOk l1 → (l0.length : Int) ≤ 1099511627776 ∧ (true = allIn 0 255 l0 → (l0.length : Int) ≤ 1099511627776 ∧ ∀ (n2 : Int), n2 = stateB l0 → (n2 = 0 → true = rdOk l0 l1 false) ∧ (¬n2
 = 0 → false = rdOk l0 l1 false)) ∧ (false = allIn 0 255 l0 → false = rdOk l0 l1 false)) ∧ (false = textOk l1 → false = rdOk l0 l1 false))
theorem v_s_StreamValid : V_s_StreamValid := by
  unfold V_s_StreamValid
  intro w t
  have hlen : (w.length : Int) = 0 ↔ w = [] := ⟨fun h => List.eq_nil_of_length_eq_zero (by omega), fun h => by rw [h]; rfl⟩
  unfold rdOk
  refine ⟨?_, ?_⟩
  · rintro ⟨h1, h2⟩
    refine ⟨h2, fun ht => ⟨h1, fun hw => ⟨fun h0 => by rw [← ht, ← hw, decide_eq_true (hlen.1 h0)]; rfl, fun h0 => by rw [← ht, ← hw, decide_eq_false (fun q => h0 (hlen.2 q))]; rfl⟩, fun hw => by rw [← ht, ← hw]; rfl⟩, fun ht => by rw [← ht]; rfl⟩
  · rintro ⟨h1, h2⟩
    refine ⟨h2, fun ht => ⟨h1, fun hw => ⟨h1, ?_⟩, fun hw => by rw [← ht, ← hw]; rfl⟩, fun ht => by rw [← ht]; rfl⟩
    rintro n rfl
    exact ⟨fun h0 => by rw [← ht, ← hw, decide_eq_true h0]; rfl, fun h0 => by rw [← ht, ← hw, decide_eq_false h0]; rfl⟩
def V_s_l32Read : Prop :=
  ∀ (l0 l1 : List Int), ((l0.length : Int) ≤ 100000000000 ∧ allIn 0 255 l0 = true ∧ textOk l1 = true ∧ true = false → ∃ (I2 : List Int → List Int → Bool → Prop), ∃ (m3 : List Int → List Int → Bool → Nat), I2 l0 l1 true ∧ ∀ (l4 l5 : List Int),
 (I2 l4 l5 true → ([], l5, true) = feed l1 l0) ∧ (I2 l4 l5 false → (l4.length : Int) ≤ 1099511627776 ∧ ∀ (n6 : Int), n6 = stateB l4 → (n6 = 1 → (l4.length : Int) ≤ 1099511627776 ∧ ∀ (l7 : List Int) (n8 : Int), (true = Option.isSome (openD l4)
 ∧ (l7, n8) = Option.getD (openD l4) ([], 0) → (-9223372036854775808 ≤ (l5.length : Int) + (l7.length : Int) ∧ (l5.length : Int) + (l7.length : Int) ≤ (9223372036854775807 : Int)) ∧ (120 < (l5.length : Int) + (l7.length : Int) → I2 l4 l5 true
 ∧ m3 l4 l5 true < m3 l4 l5 false) ∧ (¬120 < (l5.length : Int) + (l7.length : Int) → (↑(0 + l5.length) : Int) ≤ 1099511627776 ∧ (↑(l5.length + l7.length) : Int) ≤ 1099511627776 ∧ 0 ≤ n8 ∧ n8 ≤ (l4.length : Int) ∧ (l4.length : Int) ≤
 (l4.length : Int) ∧ (↑(0 + List.length (List.take (Int.toNat ((l4.length : Int) - n8)) (List.drop (n8.toNat) l4))) : Int) ≤ 1099511627776 ∧ I2 (List.take (Int.toNat ((l4.length : Int) - n8)) (List.drop (n8.toNat) l4)) (l5 ++ l7) false ∧ m3
 (List.take (Int.toNat ((l4.length : Int) - n8)) (List.drop (n8.toNat) l4)) (l5 ++ l7) false < m3 l4 l5 false)) ∧ (false = Option.isSome (openD l4) ∧ (l7, n8) = Option.getD (openD l4) ([], 0) → (-9223372036854775808 ≤ (l5.length : Int) +
 (l7.length : Int) ∧ (l5.length : Int) + (l7.length : Int) ≤ (9223372036854775807 : Int)) ∧ (120 < (l5.length : Int) + (l7.length : Int) → I2 l4 l5 true ∧ m3 l4 l5 true < m3 l4 l5 false) ∧ (¬120 < (l5.length : Int) + (l7.length : Int) → (↑(0
 + l5.length) : Int) ≤ 1099511627776 ∧ (↑(l5.length + l7.length) : Int) ≤ 1099511627776 ∧ 0 ≤ n8 ∧ n8 ≤ (l4.length : Int) ∧ (l4.length : Int) ≤ (l4.length : Int) ∧ (↑(0 + List.length (List.take (Int.toNat ((l4.length : Int) - n8)) (List.drop
 (n8.toNat) l4))) : Int) ≤ 1099511627776 ∧ I2 (List.take (Int.toNat ((l4.length : Int) - n8)) (List.drop (n8.toNat) l4)) (l5 ++ l7) false ∧ m3 (List.take (Int.toNat ((l4.length : Int) - n8)) (List.drop (n8.toNat) l4)) (l5 ++ l7) false < m3 l4
 l5 false))) ∧ (¬n6 = 1 → (l4.length : Int) ≤ 1099511627776 ∧ ∀ (n9 : Int), n9 = stateB l4 → (n9 = 2 → ([], l5, true) = feed l1 l0) ∧ (¬n9 = 2 → (l4, l5, false) = feed l1 l0)))) ∧ ((l0.length : Int) ≤ 100000000000 ∧ allIn 0 255 l0 = true ∧
 textOk l1 = true ∧ false = false → ∃ (I10 : List Int → List Int → Bool → Prop), ∃ (m11 : List Int → List Int → Bool → Nat), I10 l0 l1 false ∧ ∀ (l12 l13 : List Int), (I10 l12 l13 true → ([], l13, true) = feed l1 l0) ∧ (I10 l12 l13 false →
 (l12.length : Int) ≤ 1099511627776 ∧ ∀ (n14 : Int), n14 = stateB l12 → (n14 = 1 → (l12.length : Int) ≤ 1099511627776 ∧ ∀ (l15 : List Int) (n16 : Int), (true = Option.isSome (openD l12) ∧ (l15, n16) = Option.getD (openD l12) ([], 0) →
 (-9223372036854775808 ≤ (l13.length : Int) + (l15.length : Int) ∧ (l13.length : Int) + (l15.length : Int) ≤ (9223372036854775807 : Int)) ∧ (120 < (l13.length : Int) + (l15.length : Int) → I10 l12 l13 true ∧ m11 l12 l13 true < m11 l12 l13
 false) ∧ (¬120 < (l13.length : Int) + (l15.length : Int) → (↑(0 + l13.length) : Int) ≤ 1099511627776 ∧ (↑(l13.length + l15.length) : Int) ≤ 1099511627776 ∧ 0 ≤ n16 ∧ n16 ≤ (l12.length : Int) ∧ (l12.length : Int) ≤ (l12.length : Int) ∧ (↑(0 +
 List.length (List.take (Int.toNat ((l12.length : Int) - n16)) (List.drop (n16.toNat) l12))) : Int) ≤ 1099511627776 ∧ I10 (List.take (Int.toNat ((l12.length : Int) - n16)) (List.drop (n16.toNat) l12)) (l13 ++ l15) false ∧ m11 (List.take
 (Int.toNat ((l12.length : Int) - n16)) (List.drop (n16.toNat) l12)) (l13 ++ l15) false < m11 l12 l13 false)) ∧ (false = Option.isSome (openD l12) ∧ (l15, n16) = Option.getD (openD l12) ([], 0) → (-9223372036854775808 ≤ (l13.length : Int) +
 (l15.length : Int) ∧ (l13.length : Int) + (l15.length : Int) ≤ (9223372036854775807 : Int)) ∧ (120 < (l13.length : Int) + (l15.length : Int) → I10 l12 l13 true ∧ m11 l12 l13 true < m11 l12 l13 false) ∧ (¬120 < (l13.length : Int) +
 (l15.length : Int) → (↑(0 + l13.length) : Int) ≤ 1099511627776 ∧ (↑(l13.length + l15.length) : Int) ≤ 1099511627776 ∧ 0 ≤ n16 ∧ n16 ≤ (l12.length : Int) ∧ (l12.length : Int) ≤ (l12.length : Int) ∧ (↑(0 + List.length (List.take (Int.toNat
 ((l12.length : Int) - n16)) (List.drop (n16.toNat) l12))) : Int) ≤ 1099511627776 ∧ I10 (List.take (Int.toNat ((l12.length : Int) - n16)) (List.drop (n16.toNat) l12)) (l13 ++ l15) false ∧ m11 (List.take (Int.toNat ((l12.length : Int) - n16))
 (List.drop (n16.toNat) l12)) (l13 ++ l15) false < m11 l12 l13 false))) ∧ (¬n14 = 1 → (l12.length : Int) ≤ 1099511627776 ∧ ∀ (n17 : Int), n17 = stateB l12 → (n17 = 2 → ([], l13, true) = feed l1 l0) ∧ (¬n17 = 2 → (l12, l13, false) = feed l1
 l0))))
theorem v_s_l32Read : V_s_l32Read := by
  unfold V_s_l32Read
  intro w0 t0
  refine ⟨fun h => by simp at h, ?_⟩
  rintro ⟨hl, hw, ht, _⟩
  refine ⟨fun w t bad => (w.length : Int) ≤ 100000000000 ∧ allIn 0 255 w = true ∧ textOk t = true ∧ (bad = false → feed t w = feed t0 w0) ∧ (bad = true → feed t0 w0 = ([], t, true)), fun w t bad => 2 * w.length + (!bad).toNat, ?_, ?_⟩ <;> dsimp only
  · exact ⟨hl, hw, ht, fun _ => rfl, fun q => (by cases q)⟩
  intro w t
  refine ⟨?_, ?_⟩
  · rintro ⟨_, _, _, _, h⟩; exact (h rfl).symm
  · rintro ⟨h1, h2, h3, h4, _⟩
    have h4 := h4 rfl
    have ht120 := textOk_iff.1 h3
    refine ⟨by omega, ?_⟩
    rintro n rfl
    refine ⟨fun s1 => ⟨by omega, fun l m => ⟨?_, ?_⟩⟩, fun s1 => ⟨by omega, ?_⟩⟩
    · rintro ⟨_, hlm⟩
      obtain ⟨q1, q2, q3, q4, q5, q6⟩ := state1_of s1
      rw [q1] at hlm
      simp only [Option.getD_some, Prod.mk.injEq] at hlm
      obtain ⟨rfl, rfl⟩ := hlm
      refine ⟨by omega, fun hlong => ⟨⟨h1, h2, h3, (fun q => by cases q), (fun _ => by rw [← h4]; exact feed_long s1 (by omega))⟩, by simp⟩, fun hs => ?_⟩
      have cut : (w.drop (len1 w).toNat).take ((w.length : Int) - len1 w).toNat = w.drop (len1 w).toNat := List.take_of_length_le (by rw [List.length_drop]; omega)
      rw [cut]
      refine ⟨by omega, by omega, by omega, q3, by omega, by rw [List.length_drop]; omega, ⟨by rw [List.length_drop]; omega, allIn_drop _ h2, textOk_iff.2 ⟨by rw [List.length_append]; omega, allIn_append.2 ⟨ht120.2, by simp [LV] at q5; exact q5.2⟩⟩, (fun _ => by rw [← h4, feed_1 s1 (by omega)]), (fun q => by cases q)⟩, by rw [List.length_drop]; omega⟩
    · rintro ⟨q, _⟩
      rw [(state1_of s1).1] at q; cases q
    · rintro n rfl
      refine ⟨fun s2 => by rw [← h4, feed_2 s2], fun s2 => ?_⟩
      have s0 : stateB w = 0 := by rcases state_cases w with h | h | h <;> omega
      rw [← h4, feed_0 s0]
def V_i_StreamFeed : Prop :=
  ∀ (l0 l1 : List Int), (∀ (l2 : List Int), (l0.length : Int) ≤ 10000000000 ∧ (l1.length : Int) ≤ 10000000000 ∧ (l2.length : Int) ≤ 10000000000 → ((l0.length : Int) ≤ 1099511627776 ∧ (l1.length : Int) ≤ 1099511627776) ∧ (true = rdOk l0 l1 true
 → (l2.length : Int) ≤ 1099511627776 ∧ (true = allIn 0 255 l2 → (∃ (xs : List Int), xs = l0) ∧ (l0.length : Int) ≤ 1099511627776 ∧ ∀ (l3 : List Int), l3 = l0 → (∃ (xs : List Int), xs = l1) ∧ (l1.length : Int) ≤ 1099511627776 ∧ ∀ (l4 : List
 Int), l4 = l1 → Fed l0 l1 true l2 true l3 l4 true) ∧ (false = allIn 0 255 l2 → Fed l0 l1 true l2 false [] [] false)) ∧ (false = rdOk l0 l1 true → Fed l0 l1 true l2 false [] [] false)) ∧ ∀ (l5 : List Int), (l0.length : Int) ≤ 10000000000 ∧
 (l1.length : Int) ≤ 10000000000 ∧ (l5.length : Int) ≤ 10000000000 → ((l0.length : Int) ≤ 1099511627776 ∧ (l1.length : Int) ≤ 1099511627776) ∧ (true = rdOk l0 l1 false → (l5.length : Int) ≤ 1099511627776 ∧ (true = allIn 0 255 l5 → (∃ (xs :
 List Int), xs = l0) ∧ (l0.length : Int) ≤ 1099511627776 ∧ ∀ (l6 : List Int), l6 = l0 → (∃ (xs : List Int), xs = l1) ∧ (l1.length : Int) ≤ 1099511627776 ∧ ∀ (l7 : List Int), l7 = l1 → (↑(l6.length + l5.length) : Int) ≤ 1099511627776 ∧ ∃ (I8 :
 List Int → List Int → Bool → List Int → List Int → Bool → Prop), ∃ (m9 : List Int → List Int → Bool → List Int → List Int → Bool → Nat), I8 [] [] false (l6 ++ l5) l7 false ∧ ∀ (l10 l11 : List Int), (∀ (l12 l13 : List Int), (I8 l10 l11 true
 l12 l13 true → (l12.length : Int) ≤ 1099511627776 ∧ ∀ (n14 : Int), n14 = stateB l12 → (n14 = 0 → Fed l0 l1 false l5 true l12 l13 true) ∧ (¬n14 = 0 → (l12.length : Int) ≤ 1099511627776 ∧ ∀ (l15 : List Int) (n16 : Int), (true = Option.isSome
 (openD l12) ∧ (l15, n16) = Option.getD (openD l12) ([], 0) → (n14 = 2 → Fed l0 l1 false l5 true [] l13 true) ∧ (¬n14 = 2 → (-9223372036854775808 ≤ (l13.length : Int) + (l15.length : Int) ∧ (l13.length : Int) + (l15.length : Int) ≤
 (9223372036854775807 : Int)) ∧ (120 < (l13.length : Int) + (l15.length : Int) → Fed l0 l1 false l5 true [] l13 true) ∧ (¬120 < (l13.length : Int) + (l15.length : Int) → (↑(l13.length + l15.length) : Int) ≤ 1099511627776 ∧ 0 ≤ n16 ∧ n16 ≤
 (l12.length : Int) ∧ (l12.length : Int) ≤ (l12.length : Int) ∧ (↑(List.length (List.take (Int.toNat ((l12.length : Int) - n16)) (List.drop (n16.toNat) l12))) : Int) ≤ 1099511627776 ∧ ∀ (l17 : List Int), l17 = List.take (Int.toNat
 ((l12.length : Int) - n16)) (List.drop (n16.toNat) l12) → I8 l10 l11 true l17 (l13 ++ l15) true ∧ m9 l10 l11 true l17 (l13 ++ l15) true < m9 l10 l11 true l12 l13 true))) ∧ (false = Option.isSome (openD l12) ∧ (l15, n16) = Option.getD (openD
 l12) ([], 0) → (n14 = 2 → Fed l0 l1 false l5 true [] l13 true) ∧ (¬n14 = 2 → (-9223372036854775808 ≤ (l13.length : Int) + (l15.length : Int) ∧ (l13.length : Int) + (l15.length : Int) ≤ (9223372036854775807 : Int)) ∧ (120 < (l13.length : Int)
 + (l15.length : Int) → Fed l0 l1 false l5 true [] l13 true) ∧ (¬120 < (l13.length : Int) + (l15.length : Int) → (↑(l13.length + l15.length) : Int) ≤ 1099511627776 ∧ 0 ≤ n16 ∧ n16 ≤ (l12.length : Int) ∧ (l12.length : Int) ≤ (l12.length : Int)
 ∧ (↑(List.length (List.take (Int.toNat ((l12.length : Int) - n16)) (List.drop (n16.toNat) l12))) : Int) ≤ 1099511627776 ∧ ∀ (l18 : List Int), l18 = List.take (Int.toNat ((l12.length : Int) - n16)) (List.drop (n16.toNat) l12) → I8 l10 l11
 true l18 (l13 ++ l15) true ∧ m9 l10 l11 true l18 (l13 ++ l15) true < m9 l10 l11 true l12 l13 true))))) ∧ (I8 l10 l11 true l12 l13 false → (l12.length : Int) ≤ 1099511627776 ∧ ∀ (n19 : Int), n19 = stateB l12 → (n19 = 0 → Fed l0 l1 false l5
 true l12 l13 false) ∧ (¬n19 = 0 → (l12.length : Int) ≤ 1099511627776 ∧ ∀ (l20 : List Int) (n21 : Int), (true = Option.isSome (openD l12) ∧ (l20, n21) = Option.getD (openD l12) ([], 0) → (n19 = 2 → Fed l0 l1 false l5 true [] l13 true) ∧ (¬n19
 = 2 → (-9223372036854775808 ≤ (l13.length : Int) + (l20.length : Int) ∧ (l13.length : Int) + (l20.length : Int) ≤ (9223372036854775807 : Int)) ∧ (120 < (l13.length : Int) + (l20.length : Int) → Fed l0 l1 false l5 true [] l13 true) ∧ (¬120 <
 (l13.length : Int) + (l20.length : Int) → (↑(l13.length + l20.length) : Int) ≤ 1099511627776 ∧ 0 ≤ n21 ∧ n21 ≤ (l12.length : Int) ∧ (l12.length : Int) ≤ (l12.length : Int) ∧ (↑(List.length (List.take (Int.toNat ((l12.length : Int) - n21))
 (List.drop (n21.toNat) l12))) : Int) ≤ 1099511627776 ∧ ∀ (l22 : List Int), l22 = List.take (Int.toNat ((l12.length : Int) - n21)) (List.drop (n21.toNat) l12) → I8 l10 l11 true l22 (l13 ++ l20) false ∧ m9 l10 l11 true l22 (l13 ++ l20) false <
 m9 l10 l11 true l12 l13 false))) ∧ (false = Option.isSome (openD l12) ∧ (l20, n21) = Option.getD (openD l12) ([], 0) → (n19 = 2 → Fed l0 l1 false l5 true [] l13 true) ∧ (¬n19 = 2 → (-9223372036854775808 ≤ (l13.length : Int) + (l20.length :
 Int) ∧ (l13.length : Int) + (l20.length : Int) ≤ (9223372036854775807 : Int)) ∧ (120 < (l13.length : Int) + (l20.length : Int) → Fed l0 l1 false l5 true [] l13 true) ∧ (¬120 < (l13.length : Int) + (l20.length : Int) → (↑(l13.length +
 l20.length) : Int) ≤ 1099511627776 ∧ 0 ≤ n21 ∧ n21 ≤ (l12.length : Int) ∧ (l12.length : Int) ≤ (l12.length : Int) ∧ (↑(List.length (List.take (Int.toNat ((l12.length : Int) - n21)) (List.drop (n21.toNat) l12))) : Int) ≤ 1099511627776 ∧ ∀
 (l23 : List Int), l23 = List.take (Int.toNat ((l12.length : Int) - n21)) (List.drop (n21.toNat) l12) → I8 l10 l11 true l23 (l13 ++ l20) false ∧ m9 l10 l11 true l23 (l13 ++ l20) false < m9 l10 l11 true l12 l13 false)))))) ∧ ∀ (l24 l25 : List
 Int), (I8 l10 l11 false l24 l25 true → (l24.length : Int) ≤ 1099511627776 ∧ ∀ (n26 : Int), n26 = stateB l24 → (n26 = 0 → Fed l0 l1 false l5 true l24 l25 true) ∧ (¬n26 = 0 → (l24.length : Int) ≤ 1099511627776 ∧ ∀ (l27 : List Int) (n28 : Int),
 (true = Option.isSome (openD l24) ∧ (l27, n28) = Option.getD (openD l24) ([], 0) → (n26 = 2 → Fed l0 l1 false l5 true [] l25 true) ∧ (¬n26 = 2 → (-9223372036854775808 ≤ (l25.length : Int) + (l27.length : Int) ∧ (l25.length : Int) +
 (l27.length : Int) ≤ (9223372036854775807 : Int)) ∧ (120 < (l25.length : Int) + (l27.length : Int) → Fed l0 l1 false l5 true [] l25 true) ∧ (¬120 < (l25.length : Int) + (l27.length : Int) → (↑(l25.length + l27.length) : Int) ≤ 1099511627776
 ∧ 0 ≤ n28 ∧ n28 ≤ (l24.length : Int) ∧ (l24.length : Int) ≤ (l24.length : Int) ∧ (↑(List.length (List.take (Int.toNat ((l24.length : Int) - n28)) (List.drop (n28.toNat) l24))) : Int) ≤ 1099511627776 ∧ ∀ (l29 : List Int), l29 = List.take
 (Int.toNat ((l24.length : Int) - n28)) (List.drop (n28.toNat) l24) → I8 l10 l11 false l29 (l25 ++ l27) true ∧ m9 l10 l11 false l29 (l25 ++ l27) true < m9 l10 l11 false l24 l25 true))) ∧ (false = Option.isSome (openD l24) ∧ (l27, n28) =
 Option.getD (openD l24) ([], 0) → (n26 = 2 → Fed l0 l1 false l5 true [] l25 true) ∧ (¬n26 = 2 → (-9223372036854775808 ≤ (l25.length : Int) + (l27.length : Int) ∧ (l25.length : Int) + (l27.length : Int) ≤ (9223372036854775807 : Int)) ∧ (120 <
 (l25.length : Int) + (l27.length : Int) → Fed l0 l1 false l5 true [] l25 true) ∧ (¬120 < (l25.length : Int) + (l27.length : Int) → (↑(l25.length + l27.length) : Int) ≤ 1099511627776 ∧ 0 ≤ n28 ∧ n28 ≤ (l24.length : Int) ∧ (l24.length : Int) ≤
 (l24.length : Int) ∧ (↑(List.length (List.take (Int.toNat ((l24.length : Int) - n28)) (List.drop (n28.toNat) l24))) : Int) ≤ 1099511627776 ∧ ∀ (l30 : List Int), l30 = List.take (Int.toNat ((l24.length : Int) - n28)) (List.drop (n28.toNat)
 l24) → I8 l10 l11 false l30 (l25 ++ l27) true ∧ m9 l10 l11 false l30 (l25 ++ l27) true < m9 l10 l11 false l24 l25 true))))) ∧ (I8 l10 l11 false l24 l25 false → (l24.length : Int) ≤ 1099511627776 ∧ ∀ (n31 : Int), n31 = stateB l24 → (n31 = 0 →
 Fed l0 l1 false l5 true l24 l25 false) ∧ (¬n31 = 0 → (l24.length : Int) ≤ 1099511627776 ∧ ∀ (l32 : List Int) (n33 : Int), (true = Option.isSome (openD l24) ∧ (l32, n33) = Option.getD (openD l24) ([], 0) → (n31 = 2 → Fed l0 l1 false l5 true
 [] l25 true) ∧ (¬n31 = 2 → (-9223372036854775808 ≤ (l25.length : Int) + (l32.length : Int) ∧ (l25.length : Int) + (l32.length : Int) ≤ (9223372036854775807 : Int)) ∧ (120 < (l25.length : Int) + (l32.length : Int) → Fed l0 l1 false l5 true []
 l25 true) ∧ (¬120 < (l25.length : Int) + (l32.length : Int) → (↑(l25.length + l32.length) : Int) ≤ 1099511627776 ∧ 0 ≤ n33 ∧ n33 ≤ (l24.length : Int) ∧ (l24.length : Int) ≤ (l24.length : Int) ∧ (↑(List.length (List.take (Int.toNat
 ((l24.length : Int) - n33)) (List.drop (n33.toNat) l24))) : Int) ≤ 1099511627776 ∧ ∀ (l34 : List Int), l34 = List.take (Int.toNat ((l24.length : Int) - n33)) (List.drop (n33.toNat) l24) → I8 l10 l11 false l34 (l25 ++ l32) false ∧ m9 l10 l11
 false l34 (l25 ++ l32) false < m9 l10 l11 false l24 l25 false))) ∧ (false = Option.isSome (openD l24) ∧ (l32, n33) = Option.getD (openD l24) ([], 0) → (n31 = 2 → Fed l0 l1 false l5 true [] l25 true) ∧ (¬n31 = 2 → (-9223372036854775808 ≤
 (l25.length : Int) + (l32.length : Int) ∧ (l25.length : Int) + (l32.length : Int) ≤ (9223372036854775807 : Int)) ∧ (120 < (l25.length : Int) + (l32.length : Int) → Fed l0 l1 false l5 true [] l25 true) ∧ (¬120 < (l25.length : Int) +
 (l32.length : Int) → (↑(l25.length + l32.length) : Int) ≤ 1099511627776 ∧ 0 ≤ n33 ∧ n33 ≤ (l24.length : Int) ∧ (l24.length : Int) ≤ (l24.length : Int) ∧ (↑(List.length (List.take (Int.toNat ((l24.length : Int) - n33)) (List.drop (n33.toNat)
 l24))) : Int) ≤ 1099511627776 ∧ ∀ (l35 : List Int), l35 = List.take (Int.toNat ((l24.length : Int) - n33)) (List.drop (n33.toNat) l24) → I8 l10 l11 false l35 (l25 ++ l32) false ∧ m9 l10 l11 false l35 (l25 ++ l32) false < m9 l10 l11 false l24
 l25 false)))))) ∧ (false = allIn 0 255 l5 → Fed l0 l1 false l5 false [] [] false)) ∧ (false = rdOk l0 l1 false → Fed l0 l1 false l5 false [] [] false)
theorem v_i_StreamFeed : V_i_StreamFeed := by
  unfold V_i_StreamFeed
  intro w t
  have no : ∀ (bad : Bool) (b : List Int), (rdOk w t bad && allIn 0 255 b) = false → false = (rdOk w t bad && allIn 0 255 b) ∧ ((([] : List Int), ([] : List Int), false) = (if false = true then feedD w t bad b else ([], [], false))) ∧ ((0 : Nat) : Int) ≤ (w.length : Int) + (b.length : Int) ∧ ((0 : Nat) : Int) ≤ 120 := fun bad b h => ⟨h.symm, by simp, by omega, by omega⟩
  have yes : ∀ (bad : Bool) (b : List Int) (x y : List Int) (z : Bool), true = rdOk w t bad → true = allIn 0 255 b → (x, y, z) = feedD w t bad b → true = (rdOk w t bad && allIn 0 255 b) ∧ ((x, y, z) = (if true = true then feedD w t bad b else ([], [], false))) ∧ (x.length : Int) ≤ (w.length : Int) + (b.length : Int) ∧ (y.length : Int) ≤ 120 := fun bad b x y z h1 h2 h3 => by
    obtain ⟨f1, f2, f3⟩ := feedD_ok h1.symm h2.symm
    rw [← h3] at f1 f2 f3
    have := (textOk_iff.1 (rdOk_iff.1 f1).1).1
    simp only at this
    refine ⟨by rw [← h1, ← h2]; rfl, by rw [if_pos rfl]; exact h3, ?_, by omega⟩
    simp only at f3; omega
  refine ⟨?_, ?_⟩
  · rintro b ⟨h1, h2, h3⟩
    refine ⟨⟨by omega, by omega⟩, fun hr => ⟨by omega, fun hb => ⟨⟨_, rfl⟩, by omega, ?_⟩, fun hb => no true b (by rw [← hb, Bool.and_false])⟩, fun hr => no true b (by rw [← hr]; rfl)⟩
    rintro x rfl
    refine ⟨⟨_, rfl⟩, by omega, ?_⟩
    rintro y rfl
    exact yes true b _ _ true hr hb rfl
  · rintro b ⟨h1, h2, h3⟩
    refine ⟨⟨by omega, by omega⟩, fun hr => ⟨by omega, fun hb => ⟨⟨_, rfl⟩, by omega, ?_⟩, fun hb => no false b (by rw [← hb, Bool.and_false])⟩, fun hr => no false b (by rw [← hr]; rfl)⟩
    rintro x rfl
    refine ⟨⟨_, rfl⟩, by omega, ?_⟩
    rintro y rfl
    obtain ⟨r1, r2, r3, r4⟩ := rdOk_iff.1 hr.symm
    have hD : feedD x y false b = feed y (x ++ b) := if_neg (by simp)
    refine ⟨by omega, ?_⟩
    refine ⟨fun p1 p2 p3 u s bad => bad = false ∧ (u.length : Int) ≤ x.length + b.length ∧ allIn 0 255 u = true ∧ textOk s = true ∧ feed s u = feed y (x ++ b), fun p1 p2 p3 u s bad => u.length, ?_, ?_⟩ <;> dsimp only
    · exact ⟨rfl, by rw [List.length_append]; omega, allIn_append.2 ⟨r2, hb.symm⟩, r1, rfl⟩
    intro p1 p2
    refine ⟨?_, ?_⟩
    all_goals
      intro u s
      refine ⟨fun q => (by cases q.1), ?_⟩
      rintro ⟨_, g1, g2, g3, g4⟩
      have gt := textOk_iff.1 g3
      refine ⟨by omega, ?_⟩
      rintro n rfl
      refine ⟨fun s0 => yes false b _ _ false hr hb (by rw [hD, ← g4, feed_0 s0]), fun s0 => ⟨by omega, fun l m => ⟨?_, ?_⟩⟩⟩
      · rintro ⟨q, hlm⟩
        refine ⟨fun s2 => yes false b _ _ true hr hb (by rw [hD, ← g4, feed_2 s2]), fun s2 => ?_⟩
        have s1 : stateB u = 1 := by rcases state_cases u with h | h | h <;> omega
        obtain ⟨q1, q2, q3, q4, q5, q6⟩ := state1_of s1
        rw [q1] at hlm
        simp only [Option.getD_some, Prod.mk.injEq] at hlm
        obtain ⟨rfl, rfl⟩ := hlm
        refine ⟨by omega, fun hlong => yes false b _ _ true hr hb (by rw [hD, ← g4, feed_long s1 (by omega)]), fun hs => ?_⟩
        have cut : (u.drop (len1 u).toNat).take ((u.length : Int) - len1 u).toNat = u.drop (len1 u).toNat := List.take_of_length_le (by rw [List.length_drop]; omega)
        rw [cut]
        refine ⟨by omega, by omega, q3, by omega, by rw [List.length_drop]; omega, ?_⟩
        rintro v rfl
        exact ⟨⟨rfl, by rw [List.length_drop]; omega, allIn_drop _ g2, textOk_iff.2 ⟨by rw [List.length_append]; omega, allIn_append.2 ⟨gt.2, by simp [LV] at q5; exact q5.2⟩⟩, by rw [← g4, feed_1 s1 (by omega)]⟩, by rw [List.length_drop]; omega⟩
      · rintro ⟨q, _⟩
        refine ⟨fun s2 => yes false b _ _ true hr hb (by rw [hD, ← g4, feed_2 s2]), fun s2 => ?_⟩
        have s1 : stateB u = 1 := by rcases state_cases u with h | h | h <;> omega
        rw [(state1_of s1).1] at q; cases q
def V_s_StreamFeed : Prop :=
  ∀ (l0 l1 : List Int), (∀ (l2 : List Int), (l0.length : Int) ≤ 10000000000 ∧ (l1.length : Int) ≤ 10000000000 ∧ (l2.length : Int) ≤ 10000000000 → ((l0.length : Int) ≤ 1099511627776 ∧ (l1.length : Int) ≤ 1099511627776) ∧ (true = rdOk l0 l1 true
 → (l2.length : Int) ≤ 1099511627776 ∧ (true = allIn 0 255 l2 → (↑(0 + l0.length) : Int) ≤ 1099511627776 ∧ (↑(0 + l1.length) : Int) ≤ 1099511627776 ∧ Fed l0 l1 true l2 true l0 l1 true) ∧ (false = allIn 0 255 l2 → Fed l0 l1 true l2 false [] []
 false)) ∧ (false = rdOk l0 l1 true → Fed l0 l1 true l2 false [] [] false)) ∧ ∀ (l3 : List Int), (l0.length : Int) ≤ 10000000000 ∧ (l1.length : Int) ≤ 10000000000 ∧ (l3.length : Int) ≤ 10000000000 → ((l0.length : Int) ≤ 1099511627776 ∧
 (l1.length : Int) ≤ 1099511627776) ∧ (true = rdOk l0 l1 false → (l3.length : Int) ≤ 1099511627776 ∧ (true = allIn 0 255 l3 → (↑(0 + l0.length) : Int) ≤ 1099511627776 ∧ (↑(0 + l1.length) : Int) ≤ 1099511627776 ∧ (↑(l0.length + l3.length) :
 Int) ≤ 1099511627776 ∧ ((↑(List.length (l0 ++ l3)) : Int) ≤ 100000000000 ∧ allIn 0 255 (l0 ++ l3) = true ∧ textOk l1 = true ∧ false = false) ∧ ∀ (l4 l5 : List Int), ((l4, l5, true) = feed l1 (l0 ++ l3) → Fed l0 l1 false l3 true l4 l5 true) ∧
 ((l4, l5, false) = feed l1 (l0 ++ l3) → Fed l0 l1 false l3 true l4 l5 false)) ∧ (false = allIn 0 255 l3 → Fed l0 l1 false l3 false [] [] false)) ∧ (false = rdOk l0 l1 false → Fed l0 l1 false l3 false [] [] false)
theorem v_s_StreamFeed : V_s_StreamFeed := by
  unfold V_s_StreamFeed
  intro w t
  have no : ∀ (bad : Bool) (b : List Int), (rdOk w t bad && allIn 0 255 b) = false → false = (rdOk w t bad && allIn 0 255 b) ∧ ((([] : List Int), ([] : List Int), false) = (if false = true then feedD w t bad b else ([], [], false))) ∧ ((0 : Nat) : Int) ≤ (w.length : Int) + (b.length : Int) ∧ ((0 : Nat) : Int) ≤ 120 := fun bad b h => ⟨h.symm, by simp, by omega, by omega⟩
  have yes : ∀ (bad : Bool) (b : List Int) (x y : List Int) (z : Bool), true = rdOk w t bad → true = allIn 0 255 b → (x, y, z) = feedD w t bad b → true = (rdOk w t bad && allIn 0 255 b) ∧ ((x, y, z) = (if true = true then feedD w t bad b else ([], [], false))) ∧ (x.length : Int) ≤ (w.length : Int) + (b.length : Int) ∧ (y.length : Int) ≤ 120 := fun bad b x y z h1 h2 h3 => by
    obtain ⟨f1, f2, f3⟩ := feedD_ok h1.symm h2.symm
    rw [← h3] at f1 f2 f3
    have := (textOk_iff.1 (rdOk_iff.1 f1).1).1
    simp only at this
    refine ⟨by rw [← h1, ← h2]; rfl, by rw [if_pos rfl]; exact h3, ?_, by omega⟩
    simp only at f3; omega
  refine ⟨?_, ?_⟩
  · rintro b ⟨h1, h2, h3⟩
    refine ⟨⟨by omega, by omega⟩, fun hr => ⟨by omega, fun hb => ⟨by omega, by omega, yes true b w t true hr hb rfl⟩, fun hb => no true b (by rw [← hb, Bool.and_false])⟩, fun hr => no true b (by rw [← hr]; rfl)⟩
  · rintro b ⟨h1, h2, h3⟩
    refine ⟨⟨by omega, by omega⟩, fun hr => ⟨by omega, fun hb => ?_, fun hb => no false b (by rw [← hb, Bool.and_false])⟩, fun hr => no false b (by rw [← hr]; rfl)⟩
    obtain ⟨r1, r2, r3, r4⟩ := rdOk_iff.1 hr.symm
    have hD : feedD w t false b = feed t (w ++ b) := if_neg (by simp)
    refine ⟨by omega, by omega, by omega, ⟨by rw [List.length_append]; omega, allIn_append.2 ⟨r2, hb.symm⟩, r1, by trivial⟩, fun x y => ⟨fun h => yes false b x y true hr hb (by rw [hD]; exact h), fun h => yes false b x y false hr hb (by rw [hD]; exact h)⟩⟩
end Go.Proofs.Ytkkgpcbkkahieaa
