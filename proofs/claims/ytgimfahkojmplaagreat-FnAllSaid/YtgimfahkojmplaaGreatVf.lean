/-
  The conditions of functions, proved: f_draw.
-/
import Derived.Test.YtgimfahkojmplaaGreatM
set_option linter.unusedVariables false
set_option linter.unusedSimpArgs false
open Go Go.Ax Go.Mx
namespace Go.Proofs.YtgimfahkojmplaaGreat
def V_l_sameInts : Prop :=
  ∀ (l0 l1 : List Int), (l0.length : Int) ≤ 1099511627776 ∧ (l1.length : Int) ≤ 1099511627776 → ((l0.length : Int) ≠ (l1.length : Int) → false = decide (l0 = l1)) ∧ (¬(l0.length : Int) ≠ (l1.length : Int) → ∃ (I2 : Int → Prop), ∃ (m3 : Int →
 Nat), I2 0 ∧ ∀ (n4 : Int), I2 n4 → (n4 < (l0.length : Int) → 0 ≤ n4 ∧ n4 < (l0.length : Int) ∧ 0 ≤ n4 ∧ n4 < (l1.length : Int) ∧ (List.getD l0 (n4.toNat) 0 ≠ List.getD l1 (n4.toNat) 0 → false = decide (l0 = l1)) ∧ (¬List.getD l0 (n4.toNat) 0
 ≠ List.getD l1 (n4.toNat) 0 → (-9223372036854775808 ≤ n4 + 1 ∧ n4 + (1 : Int) ≤ (9223372036854775807 : Int)) ∧ I2 (n4 + 1) ∧ m3 (n4 + 1) < m3 n4)) ∧ (¬n4 < (l0.length : Int) → true = decide (l0 = l1)))
theorem v_l_sameInts : V_l_sameInts := by
  unfold V_l_sameInts
  rintro a b ⟨ha, hb⟩
  refine ⟨fun h => ?_, fun h => ?_⟩
  · have : a ≠ b := fun e => h (by rw [e])
    simp [this]
  refine ⟨fun i => 0 ≤ i ∧ i ≤ a.length ∧ (a.drop i.toNat = b.drop i.toNat ↔ a = b), fun i => (a.length - i).toNat, ?_, ?_⟩ <;> dsimp only
  · simp
  rintro i ⟨h0, h1, h2⟩
  refine ⟨fun hlt => ?_, fun hge => ?_⟩
  · rw [drop_lt 0 h0 hlt, drop_lt 0 h0 (show i < (b.length : Int) by omega)] at h2
    grind
  · rw [drop_ge hge, drop_ge (show ¬ i < (b.length : Int) by omega)] at h2
    simp [← h2]
end Go.Proofs.YtgimfahkojmplaaGreat
