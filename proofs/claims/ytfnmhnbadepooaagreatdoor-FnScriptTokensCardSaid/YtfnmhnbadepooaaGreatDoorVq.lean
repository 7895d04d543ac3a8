/-
  The conditions of functions, proved: q_size.
-/
import Derived.Test.YtfnmhnbadepooaaGreatDoorM
set_option linter.unusedVariables false
set_option linter.unusedSimpArgs false
open Go Go.Ax Go.Mx
namespace Go.Proofs.YtfnmhnbadepooaaGreatDoor
def V_i_SizesOf : Prop :=
  ∀ (l0 : List Int), (l0.length : Int) ≤ 1099511627776 → (l0.length : Int) ≤ 1099511627776 ∧ (true = LV l0 → ∃ (I1 : List Int → Int → Prop), ∃ (m2 : List Int → Int → Nat), I1 [] 0 ∧ ∀ (l3 : List Int) (n4 : Int), I1 l3 n4 → (n4 ≤ 3 → (l0.length
 : Int) ≤ 1099511627776 ∧ ∀ (l5 : List Int), (true = Option.isSome (blockAs l0 n4) ∧ l5 = Option.getD (blockAs l0 n4) [] ∧ (l5.length : Int) ≤ 82 → (↑(l3.length + List.length [(l5.length : Int)]) : Int) ≤ 1099511627776 ∧ (-9223372036854775808
 ≤ n4 + 1 ∧ n4 + (1 : Int) ≤ (9223372036854775807 : Int)) ∧ I1 (l3 ++ [(l5.length : Int)]) (n4 + 1) ∧ m2 (l3 ++ [(l5.length : Int)]) (n4 + 1) < m2 l3 n4) ∧ (false = Option.isSome (blockAs l0 n4) ∧ l5 = Option.getD (blockAs l0 n4) [] ∧
 (l5.length : Int) ≤ 82 → (↑(l3.length + List.length [-1]) : Int) ≤ 1099511627776 ∧ (-9223372036854775808 ≤ n4 + 1 ∧ n4 + (1 : Int) ≤ (9223372036854775807 : Int)) ∧ I1 (l3 ++ [-1]) (n4 + 1) ∧ m2 (l3 ++ [-1]) (n4 + 1) < m2 l3 n4)) ∧ (¬n4 ≤ 3 →
 l3 = sizesD l0 ∧ (l3.length : Int) ≤ 4)) ∧ (false = LV l0 → [] = sizesD l0 ∧ (↑0 : Int) ≤ 4)
theorem v_i_SizesOf : V_i_SizesOf := by
  unfold V_i_SizesOf
  intro l hz
  refine ⟨hz, fun hv => ?_, fun hv => ?_⟩
  · have hD : sizesD l = sizes4 l := if_pos hv.symm
    rw [hD]
    refine ⟨fun o w => 0 ≤ w ∧ w ≤ 4 ∧ o = (sizes4 l).take w.toNat, fun o w => (4 - w).toNat, ?_, ?_⟩ <;> dsimp only
    · exact ⟨by omega, by omega, rfl⟩
    rintro o w ⟨w0, w1, rfl⟩
    have hln : ((sizes4 l).take w.toNat).length ≤ 4 := by simp [sizes4]; omega
    refine ⟨fun hw => ⟨hz, fun x => ⟨?_, ?_⟩⟩, fun hw => ?_⟩
    · rintro ⟨q, rfl, _⟩
      have hst := sizes_step l w0 hw
      rw [sizeAs_some q] at hst
      exact ⟨by simp only [List.length_cons, List.length_nil]; omega, by omega, ⟨by omega, by omega, hst.symm⟩, by omega⟩
    · rintro ⟨q, rfl, _⟩
      have hst := sizes_step l w0 hw
      rw [sizeAs_none q] at hst
      exact ⟨by simp only [List.length_cons, List.length_nil]; omega, by omega, ⟨by omega, by omega, hst.symm⟩, by omega⟩
    · rw [show w.toNat = 4 by omega]
      exact ⟨rfl, by simp [sizes4]⟩
  · have : sizesD l = [] := if_neg (by rw [← hv]; simp)
    rw [this]; simp
def V_s_SizesOf : Prop :=
  ∀ (l0 : List Int), (l0.length : Int) ≤ 1099511627776 → ∃ (I1 : List Int → Int → Prop), ∃ (m2 : List Int → Int → Nat), I1 [] 0 ∧ ∀ (l3 : List Int) (n4 : Int), I1 l3 n4 → (n4 ≤ 3 → (l0.length : Int) ≤ 1099511627776 ∧ (true = LV l0 → (l0.length
 : Int) ≤ 1099511627776 ∧ ∀ (l5 : List Int), (true = Option.isSome (blockAs l0 n4) ∧ l5 = Option.getD (blockAs l0 n4) [] ∧ (l5.length : Int) ≤ 82 → (↑(l3.length + List.length [(l5.length : Int)]) : Int) ≤ 1099511627776 ∧ (-9223372036854775808
 ≤ n4 + 1 ∧ n4 + (1 : Int) ≤ (9223372036854775807 : Int)) ∧ I1 (l3 ++ [(l5.length : Int)]) (n4 + 1) ∧ m2 (l3 ++ [(l5.length : Int)]) (n4 + 1) < m2 l3 n4) ∧ (false = Option.isSome (blockAs l0 n4) ∧ l5 = Option.getD (blockAs l0 n4) [] ∧
 (l5.length : Int) ≤ 82 → (↑(l3.length + List.length [-1]) : Int) ≤ 1099511627776 ∧ (-9223372036854775808 ≤ n4 + 1 ∧ n4 + (1 : Int) ≤ (9223372036854775807 : Int)) ∧ I1 (l3 ++ [-1]) (n4 + 1) ∧ m2 (l3 ++ [-1]) (n4 + 1) < m2 l3 n4)) ∧ (false =
 LV l0 → l3 = sizesD l0 ∧ (l3.length : Int) ≤ 4)) ∧ (¬n4 ≤ 3 → l3 = sizesD l0 ∧ (l3.length : Int) ≤ 4)
theorem v_s_SizesOf : V_s_SizesOf := by
  unfold V_s_SizesOf
  intro l hz
  refine ⟨fun o w => 0 ≤ w ∧ w ≤ 4 ∧ o = (sizes4 l).take w.toNat ∧ (0 < w → LV l = true), fun o w => (4 - w).toNat, ?_, ?_⟩ <;> dsimp only
  · exact ⟨by omega, by omega, rfl, fun h => by omega⟩
  rintro o w ⟨w0, w1, rfl, hl⟩
  have hln : ((sizes4 l).take w.toNat).length ≤ 4 := by simp [sizes4]; omega
  refine ⟨fun hw => ⟨hz, fun hv => ⟨hz, fun x => ⟨?_, ?_⟩⟩, fun hv => ?_⟩, fun hw => ?_⟩
  · rintro ⟨q, rfl, _⟩
    have hst := sizes_step l w0 hw
    rw [sizeAs_some q] at hst
    exact ⟨by simp only [List.length_cons, List.length_nil]; omega, by omega, ⟨by omega, by omega, hst.symm, fun _ => hv.symm⟩, by omega⟩
  · rintro ⟨q, rfl, _⟩
    have hst := sizes_step l w0 hw
    rw [sizeAs_none q] at hst
    exact ⟨by simp only [List.length_cons, List.length_nil]; omega, by omega, ⟨by omega, by omega, hst.symm, fun _ => hv.symm⟩, by omega⟩
  · have hw0 : w = 0 := by
      by_cases h : 0 < w
      · rw [hl h] at hv; cases hv
      · omega
    subst hw0
    have : sizesD l = [] := if_neg (by rw [← hv]; simp)
    rw [this]; exact ⟨rfl, by simp⟩
  · have hD : sizesD l = sizes4 l := if_pos (hl (by omega))
    rw [show w.toNat = 4 by omega, hD]
    exact ⟨rfl, by simp [sizes4]⟩
end Go.Proofs.YtfnmhnbadepooaaGreatDoor
