/-
  The conditions of functions, proved: g_tokens.
-/
import Derived.Test.YtfnmhnbadepooaaGreatDoorM
set_option linter.unusedVariables false
set_option linter.unusedSimpArgs false
open Go Go.Ax Go.Mx
namespace Go.Proofs.YtfnmhnbadepooaaGreatDoor
def V_i_matchLong : Prop :=
  ∀ (l0 : List Int) (n1 n2 : Int), (l0.length : Int) ≤ 1099511627776 ∧ 0 ≤ n1 ∧ n1 ≤ (l0.length : Int) ∧ 1 ≤ n2 ∧ n2 ≤ n1 → ∃ (I3 : Int → Prop), ∃ (m4 : Int → Nat), I3 0 ∧ ∀ (n5 : Int), I3 n5 → (n5 < 9 → (-9223372036854775808 ≤ n1 + n5 ∧ n1 +
 n5 ≤ (9223372036854775807 : Int)) ∧ (n1 + n5 < (l0.length : Int) → (-9223372036854775808 ≤ n1 + n5 ∧ n1 + n5 ≤ (9223372036854775807 : Int)) ∧ 0 ≤ n1 + n5 ∧ n1 + n5 < (l0.length : Int) ∧ (-9223372036854775808 ≤ n1 + n5 ∧ n1 + n5 ≤
 (9223372036854775807 : Int)) ∧ (-9223372036854775808 ≤ n1 + n5 - n2 ∧ n1 + n5 - n2 ≤ (9223372036854775807 : Int)) ∧ 0 ≤ n1 + n5 - n2 ∧ n1 + n5 - n2 < (l0.length : Int) ∧ (List.getD l0 (Int.toNat (n1 + n5)) 0 = List.getD l0 (Int.toNat (n1 +
 n5 - n2)) 0 → (-9223372036854775808 ≤ n5 + 1 ∧ n5 + (1 : Int) ≤ (9223372036854775807 : Int)) ∧ I3 (n5 + 1) ∧ m4 (n5 + 1) < m4 n5) ∧ (¬List.getD l0 (Int.toNat (n1 + n5)) 0 = List.getD l0 (Int.toNat (n1 + n5 - n2)) 0 → n5 = mlong l0 n1 n2)) ∧
 (¬n1 + n5 < (l0.length : Int) → n5 = mlong l0 n1 n2)) ∧ (¬n5 < 9 → n5 = mlong l0 n1 n2)
theorem v_i_matchLong : V_i_matchLong := by
  unfold V_i_matchLong
  rintro l a k ⟨hz, h0, h1, hk0, hk1⟩
  refine ⟨fun n => 0 ≤ n ∧ n ≤ 9 ∧ a + n ≤ l.length ∧ mlong l a k = n + cpk (9 - n).toNat (l.drop (a + n).toNat) (l.drop (a + n - k).toNat), fun n => (9 - n).toNat, ?_, ?_⟩ <;> dsimp only
  · simp [mlong]; omega
  rintro n ⟨n0, n1, n2, n3⟩
  refine ⟨fun q1 => ⟨by omega, fun q2 => ⟨by omega, by omega, q2, by omega, by omega, by omega, by omega, fun he => ?_, fun he => ?_⟩, fun q2 => ?_⟩, fun q1 => ?_⟩
  · rw [show (9 - n).toNat = (9 - (n + 1)).toNat + 1 by omega, cpk_step (by omega) q2 (by omega) (by omega), if_pos he] at n3
    rw [show a + (n + 1) = a + n + 1 by omega, show a + n + 1 - k = a + n - k + 1 by omega]
    exact ⟨by omega, ⟨by omega, by omega, by omega, by omega⟩, by omega⟩
  · rw [show (9 - n).toNat = (9 - (n + 1)).toNat + 1 by omega, cpk_step (by omega) q2 (by omega) (by omega), if_neg he] at n3
    omega
  · rw [cpk_end q2] at n3; omega
  · rw [show (9 - n).toNat = 0 by omega, cpk_zero] at n3; omega
def V_s_l14Same : Prop :=
  ∀ (l0 : List Int) (n1 n2 : Int), (l0.length : Int) ≤ 1099511627776 ∧ 0 ≤ n1 ∧ n1 ≤ (l0.length : Int) ∧ 1 ≤ n2 ∧ n2 ≤ n1 → ∃ (I3 : Int → Prop), ∃ (m4 : Int → Nat), I3 0 ∧ ∀ (n5 : Int), I3 n5 → (n5 < 9 → (-9223372036854775808 ≤ n1 + n5 ∧ n1 +
 n5 ≤ (9223372036854775807 : Int)) ∧ (n1 + n5 < (l0.length : Int) → (-9223372036854775808 ≤ n1 + n5 ∧ n1 + n5 ≤ (9223372036854775807 : Int)) ∧ 0 ≤ n1 + n5 ∧ n1 + n5 < (l0.length : Int) ∧ (-9223372036854775808 ≤ n1 + n5 ∧ n1 + n5 ≤
 (9223372036854775807 : Int)) ∧ (-9223372036854775808 ≤ n1 + n5 - n2 ∧ n1 + n5 - n2 ≤ (9223372036854775807 : Int)) ∧ 0 ≤ n1 + n5 - n2 ∧ n1 + n5 - n2 < (l0.length : Int) ∧ (List.getD l0 (Int.toNat (n1 + n5)) 0 = List.getD l0 (Int.toNat (n1 +
 n5 - n2)) 0 → (-9223372036854775808 ≤ n5 + 1 ∧ n5 + (1 : Int) ≤ (9223372036854775807 : Int)) ∧ I3 (n5 + 1) ∧ m4 (n5 + 1) < m4 n5) ∧ (¬List.getD l0 (Int.toNat (n1 + n5)) 0 = List.getD l0 (Int.toNat (n1 + n5 - n2)) 0 → n5 = mlong l0 n1 n2)) ∧
 (¬n1 + n5 < (l0.length : Int) → n5 = mlong l0 n1 n2)) ∧ (¬n5 < 9 → n5 = mlong l0 n1 n2)
theorem v_s_l14Same : V_s_l14Same := by
  unfold V_s_l14Same
  rintro l a k ⟨hz, h0, h1, hk0, hk1⟩
  refine ⟨fun n => 0 ≤ n ∧ n ≤ 9 ∧ a + n ≤ l.length ∧ mlong l a k = n + cpk (9 - n).toNat (l.drop (a + n).toNat) (l.drop (a + n - k).toNat), fun n => (9 - n).toNat, ?_, ?_⟩ <;> dsimp only
  · simp [mlong]; omega
  rintro n ⟨n0, n1, n2, n3⟩
  refine ⟨fun q1 => ⟨by omega, fun q2 => ⟨by omega, by omega, q2, by omega, by omega, by omega, by omega, fun he => ?_, fun he => ?_⟩, fun q2 => ?_⟩, fun q1 => ?_⟩
  · rw [show (9 - n).toNat = (9 - (n + 1)).toNat + 1 by omega, cpk_step (by omega) q2 (by omega) (by omega), if_pos he] at n3
    rw [show a + (n + 1) = a + n + 1 by omega, show a + n + 1 - k = a + n - k + 1 by omega]
    exact ⟨by omega, ⟨by omega, by omega, by omega, by omega⟩, by omega⟩
  · rw [show (9 - n).toNat = (9 - (n + 1)).toNat + 1 by omega, cpk_step (by omega) q2 (by omega) (by omega), if_neg he] at n3
    omega
  · rw [cpk_end q2] at n3; omega
  · rw [show (9 - n).toNat = 0 by omega, cpk_zero] at n3; omega
def V_i_MatchAt : Prop :=
  ∀ (l0 : List Int) (n1 : Int), (l0.length : Int) ≤ 1099511627776 → (l0.length : Int) ≤ 1099511627776 ∧ (true = LV l0 → (-9223372036854775808 ≤ (l0.length : Int) - 1 ∧ (l0.length : Int) - (1 : Int) ≤ (9223372036854775807 : Int)) ∧ True ∧ (true
 = decide (0 ≤ n1 ∧ n1 ≤ (l0.length : Int) - 1) → ∃ (I2 : Int → Int → Int → Int → Prop), ∃ (m3 : Int → Int → Int → Int → Nat), I2 1 0 0 0 ∧ ∀ (n4 n5 n6 n7 : Int), I2 n4 n5 n6 n7 → (n4 ≤ min 16 n1 → ((l0.length : Int) ≤ 1099511627776 ∧ 0 ≤ n1
 ∧ n1 ≤ (l0.length : Int) ∧ 1 ≤ n4 ∧ n4 ≤ n1) ∧ ∀ (n8 : Int), n8 = mlong l0 n1 n4 → (2 ≤ n8 → (n7 < n8 → (-9223372036854775808 ≤ n4 + 1 ∧ n4 + (1 : Int) ≤ (9223372036854775807 : Int)) ∧ I2 (n4 + 1) 0 n4 n8 ∧ m3 (n4 + 1) 0 n4 n8 < m3 n4 n5 n6
 n7) ∧ (¬n7 < n8 → (-9223372036854775808 ≤ n4 + 1 ∧ n4 + (1 : Int) ≤ (9223372036854775807 : Int)) ∧ I2 (n4 + 1) n5 n6 n7 ∧ m3 (n4 + 1) n5 n6 n7 < m3 n4 n5 n6 n7)) ∧ (¬2 ≤ n8 → (-9223372036854775808 ≤ n4 + 1 ∧ n4 + (1 : Int) ≤
 (9223372036854775807 : Int)) ∧ I2 (n4 + 1) n5 n6 n7 ∧ m3 (n4 + 1) n5 n6 n7 < m3 n4 n5 n6 n7)) ∧ (¬n4 ≤ min 16 n1 → (0 < n7 → (n5, n6, n7) = matchD l0 n1 ∧ true = decide (0 < n7)) ∧ (¬0 < n7 → (n5, n6, n7) = matchD l0 n1 ∧ false = decide (0 <
 n7)))) ∧ (false = decide (0 ≤ n1 ∧ n1 ≤ (l0.length : Int) - 1) → (0, 0, 0) = matchD l0 n1 ∧ false = decide ((0 : Int) < 0))) ∧ (false = LV l0 → (0, 0, 0) = matchD l0 n1 ∧ false = decide ((0 : Int) < 0))
theorem v_i_MatchAt : V_i_MatchAt := by
  unfold V_i_MatchAt
  rintro l a hz
  refine ⟨hz, fun hv => ⟨by omega, trivial, fun ha => ?_, fun ha => ?_⟩, fun hv => ?_⟩
  · simp only [true_eq_decide_iff] at ha
    have hD : matchD l a = matchAt l a := if_pos ⟨hv.symm, by omega, by omega⟩
    rw [hD]
    refine ⟨fun k b1 b2 b3 => 1 ≤ k ∧ k ≤ min 16 a + 1 ∧ mfrom l a (min 16 a + 1 - k).toNat k (b1, b2, b3) = matchAt l a, fun k b1 b2 b3 => (min 16 a + 1 - k).toNat, ?_, ?_⟩ <;> dsimp only
    · refine ⟨by omega, by omega, ?_⟩
      unfold matchAt
      congr 1; omega
    rintro k b1 b2 b3 ⟨k0, k1, hI⟩
    refine ⟨fun hk => ⟨by omega, ?_⟩, fun hk => ?_⟩
    · rw [show (min 16 a + 1 - k).toNat = (min 16 a + 1 - (k + 1)).toNat + 1 by omega, mfrom_step] at hI
      rintro n rfl
      refine ⟨fun q1 => ⟨fun q2 => ?_, fun q2 => ?_⟩, fun q1 => ?_⟩
      · rw [if_pos ⟨q1, q2⟩] at hI; exact ⟨by omega, ⟨by omega, by omega, hI⟩, by omega⟩
      · rw [if_neg (fun h => q2 h.2)] at hI; exact ⟨by omega, ⟨by omega, by omega, hI⟩, by omega⟩
      · rw [if_neg (fun h => q1 h.1)] at hI; exact ⟨by omega, ⟨by omega, by omega, hI⟩, by omega⟩
    · rw [show (min 16 a + 1 - k).toNat = 0 by omega] at hI
      exact ⟨fun h => ⟨hI, by simp [h]⟩, fun h => ⟨hI, by simp [h]⟩⟩
  · simp only [false_eq_decide_iff] at ha
    exact ⟨(if_neg (fun h => ha ⟨h.2.1, by omega⟩)).symm, by simp⟩
  · exact ⟨(if_neg (fun h => by rw [h.1] at hv; cases hv)).symm, by simp⟩
def V_s_l14Match : Prop :=
  ∀ (l0 : List Int) (n1 : Int), (l0.length : Int) ≤ 1099511627776 ∧ 0 ≤ n1 ∧ n1 < (l0.length : Int) → ∃ (I2 : Int → Int → Int → Int → Prop), ∃ (m3 : Int → Int → Int → Int → Nat), I2 1 0 0 0 ∧ ∀ (n4 n5 n6 n7 : Int), I2 n4 n5 n6 n7 → (n4 ≤ 16 →
 (n4 ≤ n1 → ((l0.length : Int) ≤ 1099511627776 ∧ 0 ≤ n1 ∧ n1 ≤ (l0.length : Int) ∧ 1 ≤ n4 ∧ n4 ≤ n1) ∧ ∀ (n8 : Int), n8 = mlong l0 n1 n4 → (2 ≤ n8 → (n7 < n8 → (-9223372036854775808 ≤ n4 + 1 ∧ n4 + (1 : Int) ≤ (9223372036854775807 : Int)) ∧
 I2 (n4 + 1) 0 n4 n8 ∧ m3 (n4 + 1) 0 n4 n8 < m3 n4 n5 n6 n7) ∧ (¬n7 < n8 → (-9223372036854775808 ≤ n4 + 1 ∧ n4 + (1 : Int) ≤ (9223372036854775807 : Int)) ∧ I2 (n4 + 1) n5 n6 n7 ∧ m3 (n4 + 1) n5 n6 n7 < m3 n4 n5 n6 n7)) ∧ (¬2 ≤ n8 →
 (-9223372036854775808 ≤ n4 + 1 ∧ n4 + (1 : Int) ≤ (9223372036854775807 : Int)) ∧ I2 (n4 + 1) n5 n6 n7 ∧ m3 (n4 + 1) n5 n6 n7 < m3 n4 n5 n6 n7)) ∧ (¬n4 ≤ n1 → (0 < n7 → (n5, n6, n7) = matchAt l0 n1 ∧ true = decide (0 < n7)) ∧ (¬0 < n7 → (n5,
 n6, n7) = matchAt l0 n1 ∧ false = decide (0 < n7)))) ∧ (¬n4 ≤ 16 → (0 < n7 → (n5, n6, n7) = matchAt l0 n1 ∧ true = decide (0 < n7)) ∧ (¬0 < n7 → (n5, n6, n7) = matchAt l0 n1 ∧ false = decide (0 < n7)))
theorem v_s_l14Match : V_s_l14Match := by
  unfold V_s_l14Match
  rintro l a ⟨hz, h0, h1⟩
  refine ⟨fun k b1 b2 b3 => 1 ≤ k ∧ k ≤ min 16 a + 1 ∧ mfrom l a (min 16 a + 1 - k).toNat k (b1, b2, b3) = matchAt l a, fun k b1 b2 b3 => (min 16 a + 1 - k).toNat, ?_, ?_⟩ <;> dsimp only
  · refine ⟨by omega, by omega, ?_⟩
    unfold matchAt
    congr 1; omega
  rintro k b1 b2 b3 ⟨k0, k1, hI⟩
  have fin : ¬ k ≤ min 16 a → (0 < b3 → (b1, b2, b3) = matchAt l a ∧ true = decide (0 < b3)) ∧ (¬ 0 < b3 → (b1, b2, b3) = matchAt l a ∧ false = decide (0 < b3)) := fun hk => by
    rw [show (min 16 a + 1 - k).toNat = 0 by omega] at hI
    exact ⟨fun h => ⟨hI, by simp [h]⟩, fun h => ⟨hI, by simp [h]⟩⟩
  refine ⟨fun hk => ⟨fun hk' => ⟨by omega, ?_⟩, fun hk' => fin (by omega)⟩, fun hk => fin (by omega)⟩
  rw [show (min 16 a + 1 - k).toNat = (min 16 a + 1 - (k + 1)).toNat + 1 by omega, mfrom_step] at hI
  rintro n rfl
  refine ⟨fun q1 => ⟨fun q2 => ?_, fun q2 => ?_⟩, fun q1 => ?_⟩
  · rw [if_pos ⟨q1, q2⟩] at hI; exact ⟨by omega, ⟨by omega, by omega, hI⟩, by omega⟩
  · rw [if_neg (fun h => q2 h.2)] at hI; exact ⟨by omega, ⟨by omega, by omega, hI⟩, by omega⟩
  · rw [if_neg (fun h => q1 h.1)] at hI; exact ⟨by omega, ⟨by omega, by omega, hI⟩, by omega⟩
def V_i_greedy : Prop :=
  ∀ (l0 : List Int) (n1 : Int), LV l0 = true ∧ 0 ≤ n1 ∧ n1 ≤ (l0.length : Int) → ∃ (I2 : Int → List (Int × Int × Int) → Prop), ∃ (m3 : Int → List (Int × Int × Int) → Nat), I2 n1 [] ∧ ∀ (n4 : Int) (l5 : List (Int × Int × Int)), I2 n4 l5 → (n4 <
 (l0.length : Int) → (l0.length : Int) ≤ 1099511627776 ∧ ∀ (n6 n7 n8 : Int), ((n6, n7, n8) = matchD l0 n4 ∧ true = decide (0 < n8) → (↑(l5.length + List.length [(n6, n7, n8)]) : Int) ≤ 1099511627776 ∧ (-9223372036854775808 ≤ n4 + max n8 1 ∧
 n4 + max n8 (1 : Int) ≤ (9223372036854775807 : Int)) ∧ I2 (n4 + max n8 1) (l5 ++ [(n6, n7, n8)]) ∧ m3 (n4 + max n8 1) (l5 ++ [(n6, n7, n8)]) < m3 n4 l5) ∧ ((n6, n7, n8) = matchD l0 n4 ∧ false = decide (0 < n8) → 0 ≤ n4 ∧ n4 < (l0.length :
 Int) ∧ (↑(l5.length + List.length [(List.getD l0 (n4.toNat) 0, 0, 0)]) : Int) ≤ 1099511627776 ∧ (-9223372036854775808 ≤ n4 + max 0 1 ∧ n4 + max 0 (1 : Int) ≤ (9223372036854775807 : Int)) ∧ I2 (n4 + max 0 1) (l5 ++ [(List.getD l0 (n4.toNat)
 0, 0, 0)]) ∧ m3 (n4 + max 0 1) (l5 ++ [(List.getD l0 (n4.toNat) 0, 0, 0)]) < m3 n4 l5)) ∧ (¬n4 < (l0.length : Int) → l5 = greedy l0 n1 ∧ (l5.length : Int) ≤ 40)
theorem v_i_greedy : V_i_greedy := by
  unfold V_i_greedy
  rintro l a0 ⟨hv, h0, h1⟩
  have hl := LV_len hv
  refine ⟨fun a out => a0 ≤ a ∧ a ≤ l.length ∧ (out.length : Int) ≤ a - a0 ∧ out ++ greedy l a = greedy l a0, fun a out => (l.length - a).toNat, ?_, ?_⟩ <;> dsimp only
  · simp; omega
  rintro a out ⟨a1, a2, a3, hI⟩
  refine ⟨fun hlt => ⟨by omega, ?_⟩, fun hge => ?_⟩
  · rw [greedy_step (by omega) hlt] at hI
    obtain ⟨t1, t2, t3, t4⟩ := tokAt_ok l (by omega) hlt
    have hD : matchD l a = matchAt l a := if_pos ⟨hv, by omega, hlt⟩
    rw [hD]
    intro s b m
    refine ⟨?_, ?_⟩
    · rintro ⟨hm, hp⟩
      simp only [true_eq_decide_iff] at hp
      have ht : tokAt l a = (s, b, m) := by unfold tokAt; rw [← hm]; exact if_pos hp
      rw [ht] at hI t2 t1
      dsimp only at *
      refine ⟨by simp; omega, by omega, ⟨by omega, by omega, by simp; omega, by simpa using hI⟩, by omega⟩
    · rintro ⟨hm, hp⟩
      simp only [false_eq_decide_iff] at hp
      have ht : tokAt l a = (l.getD a.toNat 0, 0, 0) := by unfold tokAt; rw [← hm]; exact if_neg hp
      rw [ht] at hI t2
      dsimp only at *
      refine ⟨by omega, hlt, by simp; omega, by omega, ⟨by omega, by omega, by simp; omega, by simpa using hI⟩, by omega⟩
  · rw [greedy_end hge] at hI
    simp only [List.append_nil] at hI
    exact ⟨hI, by omega⟩
def V_i_TokensGreedy : Prop :=
  ∀ (l0 : List Int), (l0.length : Int) ≤ 1099511627776 → (l0.length : Int) ≤ 1099511627776 ∧ (true = LV l0 → (LV l0 = true ∧ (0 : Int) ≤ 0 ∧ 0 ≤ (l0.length : Int)) ∧ ∀ (l1 : List (Int × Int × Int)), l1 = greedy l0 0 ∧ (l1.length : Int) ≤ 40 →
 l1 = greedyD l0 ∧ (l1.length : Int) ≤ 40) ∧ (false = LV l0 → [] = greedyD l0 ∧ (↑0 : Int) ≤ 40)
theorem v_i_TokensGreedy : V_i_TokensGreedy := by
  unfold V_i_TokensGreedy
  intro l hz
  refine ⟨hz, fun hv => ⟨⟨hv.symm, by omega, by omega⟩, ?_⟩, fun hv => ?_⟩
  · rintro r ⟨rfl, hr⟩
    exact ⟨(if_pos hv.symm).symm, hr⟩
  · exact ⟨(if_neg (by rw [← hv]; simp)).symm, by simp⟩
def V_s_TokensGreedy : Prop :=
  ∀ (l0 : List Int), (l0.length : Int) ≤ 1099511627776 → ∃ (I1 : List (Int × Int × Int) → Int → Prop), ∃ (m2 : List (Int × Int × Int) → Int → Nat), I1 [] 0 ∧ ∀ (l3 : List (Int × Int × Int)) (n4 : Int), I1 l3 n4 → (n4 < (l0.length : Int) →
 (l0.length : Int) ≤ 1099511627776 ∧ (true = LV l0 → ((l0.length : Int) ≤ 1099511627776 ∧ 0 ≤ n4 ∧ n4 < (l0.length : Int)) ∧ ∀ (n5 n6 n7 : Int), ((n5, n6, n7) = matchAt l0 n4 ∧ true = decide (0 < n7) → (↑(l3.length + List.length [(n5, n6,
 n7)]) : Int) ≤ 1099511627776 ∧ (-9223372036854775808 ≤ n4 + n7 ∧ n4 + n7 ≤ (9223372036854775807 : Int)) ∧ I1 (l3 ++ [(n5, n6, n7)]) (n4 + n7) ∧ m2 (l3 ++ [(n5, n6, n7)]) (n4 + n7) < m2 l3 n4) ∧ ((n5, n6, n7) = matchAt l0 n4 ∧ false = decide
 (0 < n7) → 0 ≤ n4 ∧ n4 < (l0.length : Int) ∧ (↑(l3.length + List.length [(List.getD l0 (n4.toNat) 0, 0, 0)]) : Int) ≤ 1099511627776 ∧ (-9223372036854775808 ≤ n4 + 1 ∧ n4 + (1 : Int) ≤ (9223372036854775807 : Int)) ∧ I1 (l3 ++ [(List.getD l0
 (n4.toNat) 0, 0, 0)]) (n4 + 1) ∧ m2 (l3 ++ [(List.getD l0 (n4.toNat) 0, 0, 0)]) (n4 + 1) < m2 l3 n4)) ∧ (false = LV l0 → l3 = greedyD l0 ∧ (l3.length : Int) ≤ 40)) ∧ (¬n4 < (l0.length : Int) → l3 = greedyD l0 ∧ (l3.length : Int) ≤ 40)
theorem v_s_TokensGreedy : V_s_TokensGreedy := by
  unfold V_s_TokensGreedy
  intro l hz
  have fin : ∀ x, x = greedyD l → x = greedyD l ∧ (x.length : Int) ≤ 40 := fun x h => ⟨h, by rw [h]; exact (greedyD_len l).2⟩
  refine ⟨fun out a => 0 ≤ a ∧ a ≤ l.length ∧ (out.length : Int) ≤ a ∧ (0 < a → LV l = true) ∧ (LV l = true → out ++ greedy l a = greedy l 0) ∧ (a = 0 → out = []), fun out a => (l.length - a).toNat, ?_, ?_⟩ <;> dsimp only
  · simp
  rintro out a ⟨h0, h1, h2, h3, h4, h5⟩
  refine ⟨fun hlt => ⟨hz, fun hv => ⟨⟨hz, h0, hlt⟩, ?_⟩, fun hv => ?_⟩, fun hge => ?_⟩
  · have hI := h4 hv.symm
    have hl := LV_len hv.symm
    rw [greedy_step (by omega) hlt] at hI
    obtain ⟨t1, t2, t3, t4⟩ := tokAt_ok l (by omega) hlt
    intro s b m
    refine ⟨?_, ?_⟩
    · rintro ⟨hm, hp⟩
      simp only [true_eq_decide_iff] at hp
      have ht : tokAt l a = (s, b, m) := by unfold tokAt; rw [← hm]; exact if_pos hp
      rw [ht] at hI t2 t1
      dsimp only at *
      rw [show a + max m 1 = a + m by omega] at hI
      refine ⟨by simp; omega, by omega, ⟨by omega, by omega, by simp; omega, fun _ => hv.symm, fun _ => by simpa using hI, fun h => by omega⟩, by omega⟩
    · rintro ⟨hm, hp⟩
      simp only [false_eq_decide_iff] at hp
      have ht : tokAt l a = (l.getD a.toNat 0, 0, 0) := by unfold tokAt; rw [← hm]; exact if_neg hp
      rw [ht] at hI t2
      dsimp only at *
      rw [show a + max 0 1 = a + 1 by omega] at hI
      refine ⟨by omega, hlt, by simp; omega, by omega, ⟨by omega, by omega, by simp; omega, fun _ => hv.symm, fun _ => by simpa using hI, fun h => by omega⟩, by omega⟩
  · refine fin _ ?_
    have : ¬ 0 < a := fun h => by have := h3 h; rw [← hv] at this; cases this
    rw [h5 (by omega)]
    exact (if_neg (by rw [← hv]; simp)).symm
  · refine fin _ ?_
    by_cases hv : LV l = true
    · have h6 := h4 hv
      rw [greedy_end hge] at h6
      unfold greedyD
      rw [if_pos hv]; simpa using h6
    · unfold greedyD
      rw [if_neg hv]
      exact h5 (by by_cases h : 0 < a; exact absurd (h3 h) hv; omega)
end Go.Proofs.YtfnmhnbadepooaaGreatDoor
