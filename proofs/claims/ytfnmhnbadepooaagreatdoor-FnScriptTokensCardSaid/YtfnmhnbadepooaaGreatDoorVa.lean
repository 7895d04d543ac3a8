/-
  The conditions of functions, proved: a_basic.
-/
import Derived.Test.YtfnmhnbadepooaaGreatDoorM
set_option linter.unusedVariables false
set_option linter.unusedSimpArgs false
open Go Go.Ax Go.Mx
namespace Go.Proofs.YtfnmhnbadepooaaGreatDoor
def V_i_within : Prop :=
  ∀ (n0 n1 n2 : Int), True → (n1 ≤ n0 → (n0 ≤ n2 → true = decide (n1 ≤ n0 ∧ n0 ≤ n2)) ∧ (¬n0 ≤ n2 → false = decide (n1 ≤ n0 ∧ n0 ≤ n2))) ∧ (¬n1 ≤ n0 → false = decide (n1 ≤ n0 ∧ n0 ≤ n2))
theorem v_i_within : V_i_within := by
  unfold V_i_within
  intro n lo hi _
  grind
def V_s_l6In : Prop :=
  ∀ (n0 n1 n2 : Int), True → (n1 ≤ n0 → (n0 ≤ n2 → true = decide (n1 ≤ n0 ∧ n0 ≤ n2)) ∧ (¬n0 ≤ n2 → false = decide (n1 ≤ n0 ∧ n0 ≤ n2))) ∧ (¬n1 ≤ n0 → false = decide (n1 ≤ n0 ∧ n0 ≤ n2))
theorem v_s_l6In : V_s_l6In := by
  unfold V_s_l6In
  intro n lo hi _
  grind
def V_i_every : Prop :=
  ∀ (l0 : List Int) (n1 n2 : Int), (l0.length : Int) ≤ 1099511627776 → ∃ (I3 : Int → Prop), ∃ (m4 : Int → Nat), I3 0 ∧ ∀ (n5 : Int), I3 n5 → (n5 < (l0.length : Int) → 0 ≤ n5 ∧ n5 < (l0.length : Int) ∧ True ∧ (true = decide (n1 ≤ List.getD l0
 (n5.toNat) 0 ∧ List.getD l0 (n5.toNat) 0 ≤ n2) → (-9223372036854775808 ≤ n5 + 1 ∧ n5 + (1 : Int) ≤ (9223372036854775807 : Int)) ∧ I3 (n5 + 1) ∧ m4 (n5 + 1) < m4 n5) ∧ (false = decide (n1 ≤ List.getD l0 (n5.toNat) 0 ∧ List.getD l0 (n5.toNat)
 0 ≤ n2) → false = allIn n1 n2 l0)) ∧ (¬n5 < (l0.length : Int) → true = allIn n1 n2 l0)
theorem v_i_every : V_i_every := by
  unfold V_i_every
  intro l lo hi hz
  refine ⟨fun i => 0 ≤ i ∧ i ≤ l.length ∧ allIn lo hi (l.drop i.toNat) = allIn lo hi l, fun i => (l.length - i).toNat, ?_, ?_⟩ <;> dsimp only
  · simp
  rintro i ⟨h0, h1, h2⟩
  refine ⟨fun hlt => ?_, fun hge => ?_⟩
  · rw [drop_lt 0 h0 hlt, allIn] at h2
    grind
  · rw [drop_ge hge, allIn] at h2
    grind
def V_i_ListValid : Prop :=
  ∀ (l0 : List Int), (l0.length : Int) ≤ 1099511627776 → ((l0.length : Int) ≤ 40 → (l0.length : Int) ≤ 1099511627776 ∧ (true = allIn 0 7 l0 → true = LV l0) ∧ (false = allIn 0 7 l0 → false = LV l0)) ∧ (¬(l0.length : Int) ≤ 40 → false = LV l0)
theorem v_i_ListValid : V_i_ListValid := by
  unfold V_i_ListValid
  intro l hz
  grind [LV]
def V_s_ListValid : Prop :=
  ∀ (l0 : List Int), (l0.length : Int) ≤ 1099511627776 → ∃ (I1 : Int → Prop), ∃ (m2 : Int → Nat), I1 0 ∧ ∀ (n3 : Int), I1 n3 → (n3 < (l0.length : Int) → 0 ≤ n3 ∧ n3 < (l0.length : Int) ∧ True ∧ (true = decide (0 ≤ List.getD l0 (n3.toNat) 0 ∧
 List.getD l0 (n3.toNat) (0 : Int) ≤ 7) → (-9223372036854775808 ≤ n3 + 1 ∧ n3 + (1 : Int) ≤ (9223372036854775807 : Int)) ∧ I1 (n3 + 1) ∧ m2 (n3 + 1) < m2 n3) ∧ (false = decide (0 ≤ List.getD l0 (n3.toNat) 0 ∧ List.getD l0 (n3.toNat) (0 : Int)
 ≤ 7) → false = LV l0)) ∧ (¬n3 < (l0.length : Int) → ((l0.length : Int) ≤ 40 → true = LV l0) ∧ (¬(l0.length : Int) ≤ 40 → false = LV l0))
theorem v_s_ListValid : V_s_ListValid := by
  unfold V_s_ListValid
  intro l hz
  refine ⟨fun i => 0 ≤ i ∧ i ≤ l.length ∧ allIn 0 7 (l.drop i.toNat) = allIn 0 7 l, fun i => (l.length - i).toNat, ?_, ?_⟩ <;> dsimp only
  · simp
  rintro i ⟨h0, h1, h2⟩
  refine ⟨fun hlt => ?_, fun hge => ?_⟩
  · rw [drop_lt 0 h0 hlt, allIn] at h2
    grind [LV]
  · rw [drop_ge hge, allIn] at h2
    grind [LV]
def V_i_cloned : Prop :=
  ∀ (l0 : List Int), (l0.length : Int) ≤ 1099511627776 → (↑(0 + l0.length) : Int) ≤ 1099511627776 ∧ l0 = l0
theorem v_i_cloned : V_i_cloned := by
  unfold V_i_cloned
  intro l hz
  simpa using hz
end Go.Proofs.YtfnmhnbadepooaaGreatDoor
