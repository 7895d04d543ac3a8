/-
  The conditions of functions, proved: q_size.
-/
import Derived.Test.YtmfamcaiimhaeaaM
set_option linter.unusedVariables false
set_option linter.unusedSimpArgs false
open Go Go.Ax Go.Mx
namespace Go.Proofs.Ytmfamcaiimhaeaa
def V_i_SizesOf : Prop :=
  ∀ (l0 : List Int), (↑(List.length l0) : Int) ≤ 1099511627776 → (↑(List.length l0) : Int) ≤ 1099511627776 ∧ (true = LV l0 → ∃ (I1 : List Int → Int → Prop), ∃ (m2 : List Int → Int → Nat), I1 [] 0 ∧ ∀ (l3 : List Int) (n4 : Int), I1 l3 n4 → (n4
    ≤ 3 → (↑(List.length l0) : Int) ≤ 1099511627776 ∧ ∀ (l5 : List Int), (true = Option.isSome (blockAs l0 n4) ∧ l5 = Option.getD (blockAs l0 n4) [] ∧ (↑(List.length l5) : Int) ≤ 82 → (↑(List.length l3 + List.length [(↑(List.length l5) : Int)])
    : Int) ≤ 1099511627776 ∧ (-9223372036854775808 ≤ n4 + 1 ∧ n4 + (1 : Int) ≤ (9223372036854775807 : Int)) ∧ I1 (l3 ++ [(↑(List.length l5) : Int)]) (n4 + 1) ∧ m2 (l3 ++ [(↑(List.length l5) : Int)]) (n4 + 1) < m2 l3 n4) ∧ (false = Option.isSome (blockAs l0 n4)
    ∧ l5 = Option.getD (blockAs l0 n4) [] ∧ (↑(List.length l5) : Int) ≤ 82 → (↑(List.length l3 + List.length [-1]) : Int) ≤ 1099511627776 ∧ (-9223372036854775808 ≤ n4 + 1 ∧ n4 + (1 : Int) ≤ (9223372036854775807 : Int)) ∧ I1 (l3 ++ [-1]) (n4 + 1) ∧ m2 (l3 ++
    [-1]) (n4 + 1) < m2 l3 n4)) ∧ (¬n4 ≤ 3 → l3 = sizesD l0 ∧ (↑(List.length l3) : Int) ≤ 4)) ∧ (false = LV l0 → [] = sizesD l0 ∧ (↑0 : Int) ≤ 4)
theorem v_i_SizesOf : V_i_SizesOf := by
  unfold V_i_SizesOf
  intro l hz
  refine ⟨hz, fun hv => ?_, fun hv => ?_⟩
  · have hD : sizesD l = sizes4 l := if_pos hv.symm
    rw [hD]
    refine ⟨fun o w => 0 ≤ w ∧ w ≤ 4 ∧ o = (sizes4 l).take w.toNat, fun o w => (4 - w).toNat, ?_, ?_⟩ <;> dsimp only
    · exact ⟨by omega, by omega, rfl⟩
    rintro o w ⟨w0, w1, rfl⟩
    have hln : ((sizes4 l).take w.toNat).length ≤ 4 := by simp [sizes4]; omega
    refine ⟨fun hw => ⟨hz, fun x => ⟨?_, ?_⟩⟩, fun hw => ?_⟩
    · rintro ⟨q, rfl, _⟩
      have hst := sizes_step l w0 hw
      rw [sizeAs_some q] at hst
      exact ⟨by simp only [List.length_cons, List.length_nil]; omega, by omega, ⟨by omega, by omega, hst.symm⟩, by omega⟩
    · rintro ⟨q, rfl, _⟩
      have hst := sizes_step l w0 hw
      rw [sizeAs_none q] at hst
      exact ⟨by simp only [List.length_cons, List.length_nil]; omega, by omega, ⟨by omega, by omega, hst.symm⟩, by omega⟩
    · rw [show w.toNat = 4 by omega]
      exact ⟨rfl, by simp [sizes4]⟩
  · have : sizesD l = [] := if_neg (by rw [← hv]; simp)
    rw [this]; simp
def V_s_SizesOf : Prop :=
  ∀ (l0 : List Int), (↑(List.length l0) : Int) ≤ 1099511627776 → ∃ (I1 : List Int → Int → Prop), ∃ (m2 : List Int → Int → Nat), I1 [] 0 ∧ ∀ (l3 : List Int) (n4 : Int), I1 l3 n4 → (n4 ≤ 3 → (↑(List.length l0) : Int) ≤ 1099511627776 ∧ (true = LV
    l0 → (↑(List.length l0) : Int) ≤ 1099511627776 ∧ ∀ (l5 : List Int), (true = Option.isSome (blockAs l0 n4) ∧ l5 = Option.getD (blockAs l0 n4) [] ∧ (↑(List.length l5) : Int) ≤ 82 → (↑(List.length l3 + List.length [(↑(List.length l5) : Int)]) :
    Int) ≤ 1099511627776 ∧ (-9223372036854775808 ≤ n4 + 1 ∧ n4 + (1 : Int) ≤ (9223372036854775807 : Int)) ∧ I1 (l3 ++ [(↑(List.length l5) : Int)]) (n4 + 1) ∧ m2 (l3 ++ [(↑(List.length l5) : Int)]) (n4 + 1) < m2 l3 n4) ∧ (false = Option.isSome (blockAs l0 n4) ∧
    l5 = Option.getD (blockAs l0 n4) [] ∧ (↑(List.length l5) : Int) ≤ 82 → (↑(List.length l3 + List.length [-1]) : Int) ≤ 1099511627776 ∧ (-9223372036854775808 ≤ n4 + 1 ∧ n4 + (1 : Int) ≤ (9223372036854775807 : Int)) ∧ I1 (l3 ++ [-1]) (n4 + 1) ∧ m2 (l3 ++ [-1])
    (n4 + 1) < m2 l3 n4)) ∧ (false = LV l0 → l3 = sizesD l0 ∧ (↑(List.length l3) : Int) ≤ 4)) ∧ (¬n4 ≤ 3 → l3 = sizesD l0 ∧ (↑(List.length l3) : Int) ≤ 4)
theorem v_s_SizesOf : V_s_SizesOf := by
  unfold V_s_SizesOf
  intro l hz
  refine ⟨fun o w => 0 ≤ w ∧ w ≤ 4 ∧ o = (sizes4 l).take w.toNat ∧ (0 < w → LV l = true), fun o w => (4 - w).toNat, ?_, ?_⟩ <;> dsimp only
  · exact ⟨by omega, by omega, rfl, fun h => by omega⟩
  rintro o w ⟨w0, w1, rfl, hl⟩
  have hln : ((sizes4 l).take w.toNat).length ≤ 4 := by simp [sizes4]; omega
  refine ⟨fun hw => ⟨hz, fun hv => ⟨hz, fun x => ⟨?_, ?_⟩⟩, fun hv => ?_⟩, fun hw => ?_⟩
  · rintro ⟨q, rfl, _⟩
    have hst := sizes_step l w0 hw
    rw [sizeAs_some q] at hst
    exact ⟨by simp only [List.length_cons, List.length_nil]; omega, by omega, ⟨by omega, by omega, hst.symm, fun _ => hv.symm⟩, by omega⟩
  · rintro ⟨q, rfl, _⟩
    have hst := sizes_step l w0 hw
    rw [sizeAs_none q] at hst
    exact ⟨by simp only [List.length_cons, List.length_nil]; omega, by omega, ⟨by omega, by omega, hst.symm, fun _ => hv.symm⟩, by omega⟩
  · have hw0 : w = 0 := by
      by_cases h : 0 < w
      · rw [hl h] at hv; cases hv
      · omega
    subst hw0
    have : sizesD l = [] := if_neg (by rw [← hv]; simp)
    rw [this]; exact ⟨rfl, by simp⟩
  · have hD : sizesD l = sizes4 l := if_pos (hl (by omega))
    rw [show w.toNat = 4 by omega, hD]
    exact ⟨rfl, by simp [sizes4]⟩
def V_i_SizeBest : Prop :=
  ∀ (l0 : List Int), (↑(List.length l0) : Int) ≤ 1099511627776 → (↑(List.length l0) : Int) ≤ 1099511627776 ∧ ∀ (l1 : List Int), l1 = packB l0 ∧ (↑(List.length l1) : Int) ≤ 82 → ((↑(List.length l1) : Int) = 0 → -1 = bestD l0) ∧ (¬(↑(List.length
    l1) : Int) = 0 → (0 : Int) ≤ 0 ∧ 0 < (↑(List.length l1) : Int) ∧ Int.toNat 0 < List.length l1 ∧ List.getD l1 (Int.toNat 0) 0 = bestD l0)
theorem v_i_SizeBest : V_i_SizeBest := by
  unfold V_i_SizeBest
  intro l hz
  refine ⟨hz, ?_⟩
  rintro r ⟨rfl, h8⟩
  by_cases hv : LV l = true
  · obtain ⟨w, w0, w1, w2, w3, w4, w5, w6, w7, w8⟩ := packB_ok hv
    exact ⟨fun h => by omega, fun h => ⟨by omega, by omega, by omega, (if_pos hv).symm⟩⟩
  · have hp := packB_no hv
    exact ⟨fun h => (if_neg hv).symm, fun h => by rw [hp] at h; simp at h⟩
def V_s_SizeBest : Prop :=
  ∀ (l0 : List Int), (↑(List.length l0) : Int) ≤ 1099511627776 → (↑(List.length l0) : Int) ≤ 1099511627776 ∧ (true = LV l0 → (↑(List.length l0) : Int) ≤ 1099511627776 ∧ ∀ (l1 : List Int), l1 = packB l0 ∧ (↑(List.length l1) : Int) ≤ 82 → (0 : Int) ≤ 0
    ∧ 0 < (↑(List.length l1) : Int) ∧ Int.toNat 0 < List.length l1 ∧ List.getD l1 (Int.toNat 0) 0 = bestD l0) ∧ (false = LV l0 → -1 = bestD l0)
theorem v_s_SizeBest : V_s_SizeBest := by
  unfold V_s_SizeBest
  intro l hz
  refine ⟨hz, fun hv => ⟨hz, ?_⟩, fun hv => (if_neg (by rw [← hv]; simp)).symm⟩
  rintro r ⟨rfl, h8⟩
  obtain ⟨w, w0, w1, w2, w3, w4, w5, w6, w7, w8⟩ := packB_ok hv.symm
  exact ⟨by omega, by omega, by omega, (if_pos hv.symm).symm⟩
def V_i_SizeShare : Prop :=
  ∀ (l0 : List Int), (↑(List.length l0) : Int) ≤ 1099511627776 → (↑(List.length l0) : Int) ≤ 1099511627776 ∧ (true = LV l0 → ((-9223372036854775808 : Int) ≤ 2 + (↑(List.length l0) : Int) ∧ 2 + (↑(List.length l0) : Int) ≤ (9223372036854775807 : Int)) ∧
    (↑(List.length l0) : Int) ≤ 1099511627776 ∧ ∀ (l1 : List Int), l1 = packB l0 ∧ (↑(List.length l1) : Int) ≤ 82 → ((-9223372036854775808 : Int) ≤ 100 * (↑(List.length l1) : Int) ∧ 100 * (↑(List.length l1) : Int) ≤ (9223372036854775807 : Int)) ∧
    ((-9223372036854775808 : Int) ≤ 100 * (↑(List.length l1) : Int) + (2 + (↑(List.length l0) : Int)) ∧ 100 * (↑(List.length l1) : Int) + (2 + (↑(List.length l0) : Int)) ≤ (9223372036854775807 : Int)) ∧ ((-9223372036854775808 : Int) ≤ 100 * (↑(List.length l1) : Int) +
    (2 + (↑(List.length l0) : Int)) - 1 ∧ 100 * (↑(List.length l1) : Int) + (2 + (↑(List.length l0) : Int)) - (1 : Int) ≤ (9223372036854775807 : Int)) ∧ (0 : Int) ≤ 100 * (↑(List.length l1) : Int) + (2 + (↑(List.length l0) : Int)) - 1 ∧ (0 : Int) < 2 + (↑(List.length l0) :
    Int) ∧ (-9223372036854775808 ≤ (100 * (↑(List.length l1) : Int) + (2 + (↑(List.length l0) : Int)) - 1) / (2 + (↑(List.length l0) : Int)) ∧ (100 * (↑(List.length l1) : Int) + (2 + (↑(List.length l0) : Int)) - 1) / (2 + (↑(List.length l0) :
    Int)) ≤ (9223372036854775807 : Int)) ∧ (100 * (↑(List.length l1) : Int) + (2 + (↑(List.length l0) : Int)) - 1) / (2 + (↑(List.length l0) : Int)) = shareD l0) ∧ (false = LV l0 → -1 = shareD l0)
theorem v_i_SizeShare : V_i_SizeShare := by
  unfold V_i_SizeShare
  intro l hz
  refine ⟨hz, fun hv => ⟨by omega, hz, ?_⟩, fun hv => (if_neg (by rw [← hv]; simp)).symm⟩
  rintro r ⟨rfl, h8⟩
  have hl := LV_len hv.symm
  have hD : shareD l = (100 * ((packB l).length : Int) + ((l.length : Int) + 2) - 1) / ((l.length : Int) + 2) := if_pos hv.symm
  have hq : 0 ≤ (100 * ((packB l).length : Int) + (2 + (l.length : Int)) - 1) / (2 + (l.length : Int)) ∧ (100 * ((packB l).length : Int) + (2 + (l.length : Int)) - 1) / (2 + (l.length : Int)) ≤ 100 * ((packB l).length : Int) + (2 + (l.length : Int)) - 1 := ⟨Int.ediv_nonneg (by omega) (by omega), Int.ediv_le_self _ (by omega)⟩
  exact ⟨by omega, by omega, by omega, by omega, by omega, ⟨by omega, by omega⟩, by rw [hD]; rw [Int.add_comm 2]⟩
def V_s_SizeShare : Prop :=
  ∀ (l0 : List Int), (↑(List.length l0) : Int) ≤ 1099511627776 → (↑(List.length l0) : Int) ≤ 1099511627776 ∧ (true = LV l0 → (-9223372036854775808 ≤ (↑(List.length l0) : Int) + 2 ∧ (↑(List.length l0) : Int) + (2 : Int) ≤ (9223372036854775807 : Int)) ∧
    (↑(List.length l0) : Int) ≤ 1099511627776 ∧ ∀ (l1 : List Int), l1 = packB l0 ∧ (↑(List.length l1) : Int) ≤ 82 → ((-9223372036854775808 : Int) ≤ 100 * (↑(List.length l1) : Int) ∧ 100 * (↑(List.length l1) : Int) ≤ (9223372036854775807 : Int)) ∧
    ((-9223372036854775808 : Int) ≤ 100 * (↑(List.length l1) : Int) + ((↑(List.length l0) : Int) + 2) ∧ 100 * (↑(List.length l1) : Int) + ((↑(List.length l0) : Int) + 2) ≤ (9223372036854775807 : Int)) ∧ ((-9223372036854775808 : Int) ≤ 100 * (↑(List.length l1) : Int) +
    ((↑(List.length l0) : Int) + 2) - 1 ∧ 100 * (↑(List.length l1) : Int) + ((↑(List.length l0) : Int) + 2) - (1 : Int) ≤ (9223372036854775807 : Int)) ∧ (0 : Int) ≤ 100 * (↑(List.length l1) : Int) + ((↑(List.length l0) : Int) + 2) - 1 ∧ 0 < (↑(List.length l0) : Int) +
    2 ∧ (-9223372036854775808 ≤ (100 * (↑(List.length l1) : Int) + ((↑(List.length l0) : Int) + 2) - 1) / ((↑(List.length l0) : Int) + 2) ∧ (100 * (↑(List.length l1) : Int) + ((↑(List.length l0) : Int) + 2) - 1) / ((↑(List.length l0) : Int) + 2)
    ≤ (9223372036854775807 : Int)) ∧ (100 * (↑(List.length l1) : Int) + ((↑(List.length l0) : Int) + 2) - 1) / ((↑(List.length l0) : Int) + 2) = shareD l0) ∧ (false = LV l0 → -1 = shareD l0)
theorem v_s_SizeShare : V_s_SizeShare := by
  unfold V_s_SizeShare
  intro l hz
  refine ⟨hz, fun hv => ⟨by omega, hz, ?_⟩, fun hv => (if_neg (by rw [← hv]; simp)).symm⟩
  rintro r ⟨rfl, h8⟩
  have hl := LV_len hv.symm
  have hD : shareD l = (100 * ((packB l).length : Int) + ((l.length : Int) + 2) - 1) / ((l.length : Int) + 2) := if_pos hv.symm
  have hq : 0 ≤ (100 * ((packB l).length : Int) + ((l.length : Int) + 2) - 1) / ((l.length : Int) + 2) ∧ (100 * ((packB l).length : Int) + ((l.length : Int) + 2) - 1) / ((l.length : Int) + 2) ≤ 100 * ((packB l).length : Int) + ((l.length : Int) + 2) - 1 := ⟨Int.ediv_nonneg (by omega) (by omega), Int.ediv_le_self _ (by omega)⟩
  exact ⟨by omega, by omega, by omega, by omega, by omega, ⟨by omega, by omega⟩, by rw [hD]⟩
def V_s_DrawSizesOf : Prop :=
  ∀ (l0 : List UInt8), (↑(List.length l0) : Int) ≤ 1099511627776 → (↑(List.length l0) : Int) ≤ 1099511627776 ∧ ∀ (l1 : List UInt8) (n2 : Int), n2 = 0 ∧ (↑(List.length l1) : Int) ≤ 2000 → ((↑(List.length l1) : Int) ≤ 1099511627776 ∧ 0 ≤ n2 ∧ n2
    ≤ 900000000) ∧ ∀ (l3 : List UInt8) (n4 : Int) (l5 : List Int), l1 = l3 ∧ n2 ≤ n4 ∧ n4 ≤ n2 + 10000 ∧ (↑(List.length l5) : Int) ≤ 400 → (↑(List.length l5) : Int) ≤ 400
theorem v_s_DrawSizesOf : V_s_DrawSizesOf := by
  unfold V_s_DrawSizesOf
  repeat' (first | apply And.intro | (rintro _ _ _ ⟨rfl, rfl, _, _⟩) | (rintro _ _ _ ⟨rfl, _, _, _⟩) | (rintro _ _ _ _ ⟨rfl, _, _, _⟩) | (rintro _ _ ⟨rfl, _⟩) | intro _)
  all_goals try (first | omega | with_reducible rfl | with_reducible assumption | (simp only [List.length_append, List.length_take, List.length_drop, List.length_set, List.length_cons, List.length_nil, List.length_replicate, Int.toNat_natCast] <;> omega) | (simp <;> omega))
def V_s_DrawSizeBest : Prop :=
  ∀ (l0 : List UInt8), (↑(List.length l0) : Int) ≤ 1099511627776 → (↑(List.length l0) : Int) ≤ 1099511627776 ∧ ∀ (l1 : List UInt8) (n2 : Int), n2 = 0 ∧ (↑(List.length l1) : Int) ≤ 2000 → ((↑(List.length l1) : Int) ≤ 1099511627776 ∧ 0 ≤ n2 ∧ n2
    ≤ 900000000) ∧ ∀ (l3 : List UInt8) (n4 : Int) (l5 : List Int), l1 = l3 ∧ n2 ≤ n4 ∧ n4 ≤ n2 + 10000 ∧ (↑(List.length l5) : Int) ≤ 400 → (↑(List.length l5) : Int) ≤ 400
theorem v_s_DrawSizeBest : V_s_DrawSizeBest := by
  unfold V_s_DrawSizeBest
  repeat' (first | apply And.intro | (rintro _ _ _ ⟨rfl, rfl, _, _⟩) | (rintro _ _ _ ⟨rfl, _, _, _⟩) | (rintro _ _ _ _ ⟨rfl, _, _, _⟩) | (rintro _ _ ⟨rfl, _⟩) | intro _)
  all_goals try (first | omega | with_reducible rfl | with_reducible assumption | (simp only [List.length_append, List.length_take, List.length_drop, List.length_set, List.length_cons, List.length_nil, List.length_replicate, Int.toNat_natCast] <;> omega) | (simp <;> omega))
def V_s_DrawSizeShare : Prop :=
  ∀ (l0 : List UInt8), (↑(List.length l0) : Int) ≤ 1099511627776 → (↑(List.length l0) : Int) ≤ 1099511627776 ∧ ∀ (l1 : List UInt8) (n2 : Int), n2 = 0 ∧ (↑(List.length l1) : Int) ≤ 2000 → ((↑(List.length l1) : Int) ≤ 1099511627776 ∧ 0 ≤ n2 ∧ n2
    ≤ 900000000) ∧ ∀ (l3 : List UInt8) (n4 : Int) (l5 : List Int), l1 = l3 ∧ n2 ≤ n4 ∧ n4 ≤ n2 + 10000 ∧ (↑(List.length l5) : Int) ≤ 400 → (↑(List.length l5) : Int) ≤ 400
theorem v_s_DrawSizeShare : V_s_DrawSizeShare := by
  unfold V_s_DrawSizeShare
  repeat' (first | apply And.intro | (rintro _ _ _ ⟨rfl, rfl, _, _⟩) | (rintro _ _ _ ⟨rfl, _, _, _⟩) | (rintro _ _ _ _ ⟨rfl, _, _, _⟩) | (rintro _ _ ⟨rfl, _⟩) | intro _)
  all_goals try (first | omega | with_reducible rfl | with_reducible assumption | (simp only [List.length_append, List.length_take, List.length_drop, List.length_set, List.length_cons, List.length_nil, List.length_replicate, Int.toNat_natCast] <;> omega) | (simp <;> omega))
end Go.Proofs.Ytmfamcaiimhaeaa
