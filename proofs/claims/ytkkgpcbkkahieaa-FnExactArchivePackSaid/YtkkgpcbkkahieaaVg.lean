/-
  The conditions of functions, proved: g_tokens.
-/
import Derived.Test.YtkkgpcbkkahieaaM
set_option linter.unusedVariables false
set_option linter.unusedSimpArgs false
open Go Go.Ax Go.Mx
namespace Go.Proofs.Ytkkgpcbkkahieaa
def V_i_matchLong : Prop :=
  ∀ (l0 : List Int) (n1 n2 : Int), (l0.length : Int) ≤ 1099511627776 ∧ 0 ≤ n1 ∧ n1 ≤ (l0.length : Int) ∧ 1 ≤ n2 ∧ n2 ≤ n1 → ∃ (I3 : Int → Prop), ∃ (m4 : Int → Nat), I3 0 ∧ ∀ (n5 : Int), I3 n5 → (n5 < 9 → (-9223372036854775808 ≤ n1 + n5 ∧ n1 +
 n5 ≤ (9223372036854775807 : Int)) ∧ (n1 + n5 < (l0.length : Int) → (-9223372036854775808 ≤ n1 + n5 ∧ n1 + n5 ≤ (9223372036854775807 : Int)) ∧ 0 ≤ n1 + n5 ∧ n1 + n5 < (l0.length : Int) ∧ (-9223372036854775808 ≤ n1 + n5 ∧ n1 + n5 ≤
 (9223372036854775807 : Int)) ∧ (-9223372036854775808 ≤ n1 + n5 - n2 ∧ n1 + n5 - n2 ≤ (9223372036854775807 : Int)) ∧ 0 ≤ n1 + n5 - n2 ∧ n1 + n5 - n2 < (l0.length : Int) ∧ (List.getD l0 (Int.toNat (n1 + n5)) 0 = List.getD l0 (Int.toNat (n1 +
 n5 - n2)) 0 → (-9223372036854775808 ≤ n5 + 1 ∧ n5 + (1 : Int) ≤ (9223372036854775807 : Int)) ∧ I3 (n5 + 1) ∧ m4 (n5 + 1) < m4 n5) ∧ (¬List.getD l0 (Int.toNat (n1 + n5)) 0 = List.getD l0 (Int.toNat (n1 + n5 - n2)) 0 → n5 = mlong l0 n1 n2)) ∧
 (¬n1 + n5 < (l0.length : Int) → n5 = mlong l0 n1 n2)) ∧ (¬n5 < 9 → n5 = mlong l0 n1 n2)
theorem v_i_matchLong : V_i_matchLong := by
  unfold V_i_matchLong
  rintro l a k ⟨hz, h0, h1, hk0, hk1⟩
  refine ⟨fun n => 0 ≤ n ∧ n ≤ 9 ∧ a + n ≤ l.length ∧ mlong l a k = n + cpk (9 - n).toNat (l.drop (a + n).toNat) (l.drop (a + n - k).toNat), fun n => (9 - n).toNat, ?_, ?_⟩ <;> dsimp only
  · simp [mlong]; omega
  rintro n ⟨n0, n1, n2, n3⟩
  refine ⟨fun q1 => ⟨by omega, fun q2 => ⟨by omega, by omega, q2, by omega, by omega, by omega, by omega, fun he => ?_, fun he => ?_⟩, fun q2 => ?_⟩, fun q1 => ?_⟩
  · rw [show (9 - n).toNat = (9 - (n + 1)).toNat + 1 by omega, cpk_step (by omega) q2 (by omega) (by omega), if_pos he] at n3
    rw [show a + (n + 1) = a + n + 1 by omega, show a + n + 1 - k = a + n - k + 1 by omega]
    exact ⟨by omega, ⟨by omega, by omega, by omega, by omega⟩, by omega⟩
  · rw [show (9 - n).toNat = (9 - (n + 1)).toNat + 1 by omega, cpk_step (by omega) q2 (by omega) (by omega), if_neg he] at n3
    omega
  · rw [cpk_end q2] at n3; omega
  · rw [show (9 - n).toNat = 0 by omega, cpk_zero] at n3; omega
def V_s_l14Same : Prop :=
  ∀ (l0 : List Int) (n1 n2 : Int), (l0.length : Int) ≤ 1099511627776 ∧ 0 ≤ n1 ∧ n1 ≤ (l0.length : Int) ∧ 1 ≤ n2 ∧ n2 ≤ n1 → ∃ (I3 : Int → Prop), ∃ (m4 : Int → Nat), I3 0 ∧ ∀ (n5 : Int), I3 n5 → (n5 < 9 → (-9223372036854775808 ≤ n1 + n5 ∧ n1 +
 n5 ≤ (9223372036854775807 : Int)) ∧ (n1 + n5 < (l0.length : Int) → (-9223372036854775808 ≤ n1 + n5 ∧ n1 + n5 ≤ (9223372036854775807 : Int)) ∧ 0 ≤ n1 + n5 ∧ n1 + n5 < (l0.length : Int) ∧ (-9223372036854775808 ≤ n1 + n5 ∧ n1 + n5 ≤
 (9223372036854775807 : Int)) ∧ (-9223372036854775808 ≤ n1 + n5 - n2 ∧ n1 + n5 - n2 ≤ (9223372036854775807 : Int)) ∧ 0 ≤ n1 + n5 - n2 ∧ n1 + n5 - n2 < (l0.length : Int) ∧ (List.getD l0 (Int.toNat (n1 + n5)) 0 = List.getD l0 (Int.toNat (n1 +
 n5 - n2)) 0 → (-9223372036854775808 ≤ n5 + 1 ∧ n5 + (1 : Int) ≤ (9223372036854775807 : Int)) ∧ I3 (n5 + 1) ∧ m4 (n5 + 1) < m4 n5) ∧ (¬List.getD l0 (Int.toNat (n1 + n5)) 0 = List.getD l0 (Int.toNat (n1 + n5 - n2)) 0 → n5 = mlong l0 n1 n2)) ∧
 (¬n1 + n5 < (l0.length : Int) → n5 = mlong l0 n1 n2)) ∧ (¬n5 < 9 → n5 = mlong l0 n1 n2)
theorem v_s_l14Same : V_s_l14Same := by
  unfold V_s_l14Same
  rintro l a k ⟨hz, h0, h1, hk0, hk1⟩
  refine ⟨fun n => 0 ≤ n ∧ n ≤ 9 ∧ a + n ≤ l.length ∧ mlong l a k = n + cpk (9 - n).toNat (l.drop (a + n).toNat) (l.drop (a + n - k).toNat), fun n => (9 - n).toNat, ?_, ?_⟩ <;> dsimp only
  · simp [mlong]; omega
  rintro n ⟨n0, n1, n2, n3⟩
  refine ⟨fun q1 => ⟨by omega, fun q2 => ⟨by omega, by omega, q2, by omega, by omega, by omega, by omega, fun he => ?_, fun he => ?_⟩, fun q2 => ?_⟩, fun q1 => ?_⟩
  · rw [show (9 - n).toNat = (9 - (n + 1)).toNat + 1 by omega, cpk_step (by omega) q2 (by omega) (by omega), if_pos he] at n3
    rw [show a + (n + 1) = a + n + 1 by omega, show a + n + 1 - k = a + n - k + 1 by omega]
    exact ⟨by omega, ⟨by omega, by omega, by omega, by omega⟩, by omega⟩
  · rw [show (9 - n).toNat = (9 - (n + 1)).toNat + 1 by omega, cpk_step (by omega) q2 (by omega) (by omega), if_neg he] at n3
    omega
  · rw [cpk_end q2] at n3; omega
  · rw [show (9 - n).toNat = 0 by omega, cpk_zero] at n3; omega
end Go.Proofs.Ytkkgpcbkkahieaa
