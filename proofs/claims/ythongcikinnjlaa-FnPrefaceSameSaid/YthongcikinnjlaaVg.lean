/-
  The conditions of functions, proved: g_tokens.
-/
import Derived.Test.YthongcikinnjlaaM
set_option linter.unusedVariables false
set_option linter.unusedSimpArgs false
open Go Go.Ax Go.Mx
namespace Go.Proofs.Ythongcikinnjlaa
def V_i_matchLong : Prop :=
  ∀ (l0 : List Int) (n1 n2 : Int), (↑(List.length l0) : Int) ≤ 1099511627776 ∧ 0 ≤ n1 ∧ n1 ≤ (↑(List.length l0) : Int) ∧ 1 ≤ n2 ∧ n2 ≤ n1 → ∃ (I3 : Int → Prop), ∃ (m4 : Int → Nat), I3 0 ∧ ∀ (n5 : Int), I3 n5 → (n5 < 9 → (-9223372036854775808 ≤
    n1 + n5 ∧ n1 + n5 ≤ 9223372036854775807) ∧ (n1 + n5 < (↑(List.length l0) : Int) → (-9223372036854775808 ≤ n1 + n5 ∧ n1 + n5 ≤ 9223372036854775807) ∧ 0 ≤ n1 + n5 ∧ n1 + n5 < (↑(List.length l0) : Int) ∧ (-9223372036854775808 ≤ n1 + n5 ∧ n1 +
    n5 ≤ 9223372036854775807) ∧ (-9223372036854775808 ≤ n1 + n5 - n2 ∧ n1 + n5 - n2 ≤ 9223372036854775807) ∧ 0 ≤ n1 + n5 - n2 ∧ n1 + n5 - n2 < (↑(List.length l0) : Int) ∧ (List.getD l0 (Int.toNat (n1 + n5)) 0 = List.getD l0 (Int.toNat (n1 + n5 -
    n2)) 0 → (-9223372036854775808 ≤ n5 + 1 ∧ n5 + (1 : Int) ≤ 9223372036854775807) ∧ I3 (n5 + 1) ∧ m4 (n5 + 1) < m4 n5) ∧ (¬List.getD l0 (Int.toNat (n1 + n5)) 0 = List.getD l0 (Int.toNat (n1 + n5 - n2)) 0 → n5 = mlong l0 n1 n2)) ∧ (¬n1 + n5 <
    (↑(List.length l0) : Int) → n5 = mlong l0 n1 n2)) ∧ (¬n5 < 9 → n5 = mlong l0 n1 n2)
theorem v_i_matchLong : V_i_matchLong := by
  unfold V_i_matchLong
  rintro l a k ⟨hz, h0, h1, hk0, hk1⟩
  refine ⟨fun n => 0 ≤ n ∧ n ≤ 9 ∧ a + n ≤ l.length ∧ mlong l a k = n + cpk (9 - n).toNat (l.drop (a + n).toNat) (l.drop (a + n - k).toNat), fun n => (9 - n).toNat, ?_, ?_⟩ <;> dsimp only
  · simp [mlong]; omega
  rintro n ⟨n0, n1, n2, n3⟩
  refine ⟨fun q1 => ⟨by omega, fun q2 => ⟨by omega, by omega, q2, by omega, by omega, by omega, by omega, fun he => ?_, fun he => ?_⟩, fun q2 => ?_⟩, fun q1 => ?_⟩
  · rw [show (9 - n).toNat = (9 - (n + 1)).toNat + 1 by omega, cpk_step (by omega) q2 (by omega) (by omega), if_pos he] at n3
    rw [show a + (n + 1) = a + n + 1 by omega, show a + n + 1 - k = a + n - k + 1 by omega]
    exact ⟨by omega, ⟨by omega, by omega, by omega, by omega⟩, by omega⟩
  · rw [show (9 - n).toNat = (9 - (n + 1)).toNat + 1 by omega, cpk_step (by omega) q2 (by omega) (by omega), if_neg he] at n3
    omega
  · rw [cpk_end q2] at n3; omega
  · rw [show (9 - n).toNat = 0 by omega, cpk_zero] at n3; omega
def V_s_l14Same : Prop :=
  ∀ (l0 : List Int) (n1 n2 : Int), (↑(List.length l0) : Int) ≤ 1099511627776 ∧ 0 ≤ n1 ∧ n1 ≤ (↑(List.length l0) : Int) ∧ 1 ≤ n2 ∧ n2 ≤ n1 → ∃ (I3 : Int → Prop), ∃ (m4 : Int → Nat), I3 0 ∧ ∀ (n5 : Int), I3 n5 → (n5 < 9 → (-9223372036854775808 ≤
    n1 + n5 ∧ n1 + n5 ≤ 9223372036854775807) ∧ (n1 + n5 < (↑(List.length l0) : Int) → (-9223372036854775808 ≤ n1 + n5 ∧ n1 + n5 ≤ 9223372036854775807) ∧ 0 ≤ n1 + n5 ∧ n1 + n5 < (↑(List.length l0) : Int) ∧ (-9223372036854775808 ≤ n1 + n5 ∧ n1 +
    n5 ≤ 9223372036854775807) ∧ (-9223372036854775808 ≤ n1 + n5 - n2 ∧ n1 + n5 - n2 ≤ 9223372036854775807) ∧ 0 ≤ n1 + n5 - n2 ∧ n1 + n5 - n2 < (↑(List.length l0) : Int) ∧ (List.getD l0 (Int.toNat (n1 + n5)) 0 = List.getD l0 (Int.toNat (n1 + n5 -
    n2)) 0 → (-9223372036854775808 ≤ n5 + 1 ∧ n5 + (1 : Int) ≤ 9223372036854775807) ∧ I3 (n5 + 1) ∧ m4 (n5 + 1) < m4 n5) ∧ (¬List.getD l0 (Int.toNat (n1 + n5)) 0 = List.getD l0 (Int.toNat (n1 + n5 - n2)) 0 → n5 = mlong l0 n1 n2)) ∧ (¬n1 + n5 <
    (↑(List.length l0) : Int) → n5 = mlong l0 n1 n2)) ∧ (¬n5 < 9 → n5 = mlong l0 n1 n2)
theorem v_s_l14Same : V_s_l14Same := by
  unfold V_s_l14Same
  rintro l a k ⟨hz, h0, h1, hk0, hk1⟩
  refine ⟨fun n => 0 ≤ n ∧ n ≤ 9 ∧ a + n ≤ l.length ∧ mlong l a k = n + cpk (9 - n).toNat (l.drop (a + n).toNat) (l.drop (a + n - k).toNat), fun n => (9 - n).toNat, ?_, ?_⟩ <;> dsimp only
  · simp [mlong]; omega
  rintro n ⟨n0, n1, n2, n3⟩
  refine ⟨fun q1 => ⟨by omega, fun q2 => ⟨by omega, by omega, q2, by omega, by omega, by omega, by omega, fun he => ?_, fun he => ?_⟩, fun q2 => ?_⟩, fun q1 => ?_⟩
  · rw [show (9 - n).toNat = (9 - (n + 1)).toNat + 1 by omega, cpk_step (by omega) q2 (by omega) (by omega), if_pos he] at n3
    rw [show a + (n + 1) = a + n + 1 by omega, show a + n + 1 - k = a + n - k + 1 by omega]
    exact ⟨by omega, ⟨by omega, by omega, by omega, by omega⟩, by omega⟩
  · rw [show (9 - n).toNat = (9 - (n + 1)).toNat + 1 by omega, cpk_step (by omega) q2 (by omega) (by omega), if_neg he] at n3
    omega
  · rw [cpk_end q2] at n3; omega
  · rw [show (9 - n).toNat = 0 by omega, cpk_zero] at n3; omega
def V_i_MatchAt : Prop :=
  ∀ (l0 : List Int) (n1 : Int), (↑(List.length l0) : Int) ≤ 1099511627776 → (↑(List.length l0) : Int) ≤ 1099511627776 ∧ (true = LV l0 → (-9223372036854775808 ≤ (↑(List.length l0) : Int) - 1 ∧ (↑(List.length l0) : Int) - (1 : Int) ≤ 9223372036854775807) ∧ True ∧ (true = decide (0 ≤ n1 ∧ n1 ≤ (↑(List.length l0) : Int) - 1) → ∃ (I2 : Int → Int → Int → Int → Prop), ∃ (m3 : Int → Int → Int → Int → Nat), I2 1 0 0 0 ∧ ∀ (n4 n5 n6 n7 : Int), I2 n4 n5 n6 n7 → (n4 ≤ min 16 n1 →
    ((↑(List.length l0) : Int) ≤ 1099511627776 ∧ 0 ≤ n1 ∧ n1 ≤ (↑(List.length l0) : Int) ∧ 1 ≤ n4 ∧ n4 ≤ n1) ∧ ∀ (n8 : Int), n8 = mlong l0 n1 n4 → (2 ≤ n8 → (n7 < n8 → (-9223372036854775808 ≤ n4 + 1 ∧ n4 + (1 : Int) ≤ 9223372036854775807) ∧ I2 (n4 + 1)
    0 n4 n8 ∧ m3 (n4 + 1) 0 n4 n8 < m3 n4 n5 n6 n7) ∧ (¬n7 < n8 → (-9223372036854775808 ≤ n4 + 1 ∧ n4 + (1 : Int) ≤ 9223372036854775807) ∧ I2 (n4 + 1) n5 n6 n7 ∧ m3 (n4 + 1) n5 n6 n7 < m3 n4 n5 n6 n7)) ∧ (¬2 ≤ n8 → (-9223372036854775808 ≤ n4 + 1 ∧ n4 +
    (1 : Int) ≤ 9223372036854775807) ∧ I2 (n4 + 1) n5 n6 n7 ∧ m3 (n4 + 1) n5 n6 n7 < m3 n4 n5 n6 n7)) ∧ (¬n4 ≤ min 16 n1 → (0 < n7 → (n5, n6, n7) = matchD l0 n1 ∧ true = decide (0 < n7)) ∧ (¬0 < n7 → (n5, n6, n7) = matchD l0 n1 ∧ false = decide (0 <
    n7)))) ∧ (false = decide (0 ≤ n1 ∧ n1 ≤ (↑(List.length l0) : Int) - 1) → (0, 0, 0) = matchD l0 n1 ∧ false = decide ((0 : Int) < 0))) ∧ (false = LV l0 → (0, 0, 0) = matchD l0 n1 ∧ false = decide ((0 : Int) < 0))
theorem v_i_MatchAt : V_i_MatchAt := by
  unfold V_i_MatchAt
  rintro l a hz
  refine ⟨hz, fun hv => ⟨by omega, trivial, fun ha => ?_, fun ha => ?_⟩, fun hv => ?_⟩
  · simp only [true_eq_decide_iff] at ha
    have hD : matchD l a = matchAt l a := if_pos ⟨hv.symm, by omega, by omega⟩
    rw [hD]
    refine ⟨fun k b1 b2 b3 => 1 ≤ k ∧ k ≤ min 16 a + 1 ∧ mfrom l a (min 16 a + 1 - k).toNat k (b1, b2, b3) = matchAt l a, fun k b1 b2 b3 => (min 16 a + 1 - k).toNat, ?_, ?_⟩ <;> dsimp only
    · refine ⟨by omega, by omega, ?_⟩
      unfold matchAt
      congr 1; omega
    rintro k b1 b2 b3 ⟨k0, k1, hI⟩
    refine ⟨fun hk => ⟨by omega, ?_⟩, fun hk => ?_⟩
    · rw [show (min 16 a + 1 - k).toNat = (min 16 a + 1 - (k + 1)).toNat + 1 by omega, mfrom_step] at hI
      rintro n rfl
      refine ⟨fun q1 => ⟨fun q2 => ?_, fun q2 => ?_⟩, fun q1 => ?_⟩
      · rw [if_pos ⟨q1, q2⟩] at hI; exact ⟨by omega, ⟨by omega, by omega, hI⟩, by omega⟩
      · rw [if_neg (fun h => q2 h.2)] at hI; exact ⟨by omega, ⟨by omega, by omega, hI⟩, by omega⟩
      · rw [if_neg (fun h => q1 h.1)] at hI; exact ⟨by omega, ⟨by omega, by omega, hI⟩, by omega⟩
    · rw [show (min 16 a + 1 - k).toNat = 0 by omega] at hI
      exact ⟨fun h => ⟨hI, by simp [h]⟩, fun h => ⟨hI, by simp [h]⟩⟩
  · simp only [false_eq_decide_iff] at ha
    exact ⟨(if_neg (fun h => ha ⟨h.2.1, by omega⟩)).symm, by simp⟩
  · exact ⟨(if_neg (fun h => by rw [h.1] at hv; cases hv)).symm, by simp⟩
def V_s_l14Match : Prop :=
  ∀ (l0 : List Int) (n1 : Int), (↑(List.length l0) : Int) ≤ 1099511627776 ∧ 0 ≤ n1 ∧ n1 < (↑(List.length l0) : Int) → ∃ (I2 : Int → Int → Int → Int → Prop), ∃ (m3 : Int → Int → Int → Int → Nat), I2 1 0 0 0 ∧ ∀ (n4 n5 n6 n7 : Int), I2 n4 n5 n6
    n7 → (n4 ≤ 16 → (n4 ≤ n1 → ((↑(List.length l0) : Int) ≤ 1099511627776 ∧ 0 ≤ n1 ∧ n1 ≤ (↑(List.length l0) : Int) ∧ 1 ≤ n4 ∧ n4 ≤ n1) ∧ ∀ (n8 : Int), n8 = mlong l0 n1 n4 → (2 ≤ n8 → (n7 < n8 → (-9223372036854775808 ≤ n4 + 1 ∧ n4 + (1 : Int) ≤ 9223372036854775807) ∧ I2 (n4 + 1) 0 n4 n8 ∧ m3 (n4 + 1) 0 n4 n8 < m3 n4 n5 n6 n7) ∧ (¬n7 < n8 → (-9223372036854775808 ≤ n4 + 1 ∧ n4 + (1 : Int) ≤ 9223372036854775807) ∧ I2 (n4 + 1) n5 n6 n7 ∧ m3 (n4 + 1) n5 n6 n7 < m3 n4 n5 n6 n7)) ∧ (¬2 ≤ n8 →
    (-9223372036854775808 ≤ n4 + 1 ∧ n4 + (1 : Int) ≤ 9223372036854775807) ∧ I2 (n4 + 1) n5 n6 n7 ∧ m3 (n4 + 1) n5 n6 n7 < m3 n4 n5 n6 n7)) ∧ (¬n4 ≤ n1 → (0 < n7 → (n5, n6, n7) = matchAt l0 n1 ∧ true = decide (0 < n7)) ∧ (¬0 < n7 → (n5, n6, n7) =
    matchAt l0 n1 ∧ false = decide (0 < n7)))) ∧ (¬n4 ≤ 16 → (0 < n7 → (n5, n6, n7) = matchAt l0 n1 ∧ true = decide (0 < n7)) ∧ (¬0 < n7 → (n5, n6, n7) = matchAt l0 n1 ∧ false = decide (0 < n7)))
theorem v_s_l14Match : V_s_l14Match := by
  unfold V_s_l14Match
  rintro l a ⟨hz, h0, h1⟩
  refine ⟨fun k b1 b2 b3 => 1 ≤ k ∧ k ≤ min 16 a + 1 ∧ mfrom l a (min 16 a + 1 - k).toNat k (b1, b2, b3) = matchAt l a, fun k b1 b2 b3 => (min 16 a + 1 - k).toNat, ?_, ?_⟩ <;> dsimp only
  · refine ⟨by omega, by omega, ?_⟩
    unfold matchAt
    congr 1; omega
  rintro k b1 b2 b3 ⟨k0, k1, hI⟩
  have fin : ¬ k ≤ min 16 a → (0 < b3 → (b1, b2, b3) = matchAt l a ∧ true = decide (0 < b3)) ∧ (¬ 0 < b3 → (b1, b2, b3) = matchAt l a ∧ false = decide (0 < b3)) := fun hk => by
    rw [show (min 16 a + 1 - k).toNat = 0 by omega] at hI
    exact ⟨fun h => ⟨hI, by simp [h]⟩, fun h => ⟨hI, by simp [h]⟩⟩
  refine ⟨fun hk => ⟨fun hk' => ⟨by omega, ?_⟩, fun hk' => fin (by omega)⟩, fun hk => fin (by omega)⟩
  rw [show (min 16 a + 1 - k).toNat = (min 16 a + 1 - (k + 1)).toNat + 1 by omega, mfrom_step] at hI
  rintro n rfl
  refine ⟨fun q1 => ⟨fun q2 => ?_, fun q2 => ?_⟩, fun q1 => ?_⟩
  · rw [if_pos ⟨q1, q2⟩] at hI; exact ⟨by omega, ⟨by omega, by omega, hI⟩, by omega⟩
  · rw [if_neg (fun h => q2 h.2)] at hI; exact ⟨by omega, ⟨by omega, by omega, hI⟩, by omega⟩
  · rw [if_neg (fun h => q1 h.1)] at hI; exact ⟨by omega, ⟨by omega, by omega, hI⟩, by omega⟩
def V_i_greedy : Prop :=
  ∀ (l0 : List Int) (n1 : Int), LV l0 = true ∧ 0 ≤ n1 ∧ n1 ≤ (↑(List.length l0) : Int) → ∃ (I2 : Int → List (Int × Int × Int) → Prop), ∃ (m3 : Int → List (Int × Int × Int) → Nat), I2 n1 [] ∧ ∀ (n4 : Int) (l5 : List (Int × Int × Int)), I2 n4 l5
    → (n4 < (↑(List.length l0) : Int) → (↑(List.length l0) : Int) ≤ 1099511627776 ∧ ∀ (n6 n7 n8 : Int), ((n6, n7, n8) = matchD l0 n4 ∧ true = decide (0 < n8) → (↑(List.length l5 + List.length [(n6, n7, n8)]) : Int) ≤ 1099511627776 ∧
    (-9223372036854775808 ≤ n4 + max n8 1 ∧ n4 + max n8 (1 : Int) ≤ 9223372036854775807) ∧ I2 (n4 + max n8 1) (l5 ++ [(n6, n7, n8)]) ∧ m3 (n4 + max n8 1) (l5 ++ [(n6, n7, n8)]) < m3 n4 l5) ∧ ((n6, n7, n8) = matchD l0 n4 ∧ false = decide (0 < n8) → 0 ≤
    n4 ∧ n4 < (↑(List.length l0) : Int) ∧ (↑(List.length l5 + List.length [(List.getD l0 (Int.toNat n4) 0, 0, 0)]) : Int) ≤ 1099511627776 ∧ (-9223372036854775808 ≤ n4 + max 0 1 ∧ n4 + max 0 (1 : Int) ≤ 9223372036854775807) ∧ I2 (n4 + max 0 1) (l5 ++
    [(List.getD l0 (Int.toNat n4) 0, 0, 0)]) ∧ m3 (n4 + max 0 1) (l5 ++ [(List.getD l0 (Int.toNat n4) 0, 0, 0)]) < m3 n4 l5)) ∧ (¬n4 < (↑(List.length l0) : Int) → l5 = greedy l0 n1 ∧ (↑(List.length l5) : Int) ≤ 40)
theorem v_i_greedy : V_i_greedy := by
  unfold V_i_greedy
  rintro l a0 ⟨hv, h0, h1⟩
  have hl := LV_len hv
  refine ⟨fun a out => a0 ≤ a ∧ a ≤ l.length ∧ (out.length : Int) ≤ a - a0 ∧ out ++ greedy l a = greedy l a0, fun a out => (l.length - a).toNat, ?_, ?_⟩ <;> dsimp only
  · simp; omega
  rintro a out ⟨a1, a2, a3, hI⟩
  refine ⟨fun hlt => ⟨by omega, ?_⟩, fun hge => ?_⟩
  · rw [greedy_step (by omega) hlt] at hI
    obtain ⟨t1, t2, t3, t4⟩ := tokAt_ok l (by omega) hlt
    have hD : matchD l a = matchAt l a := if_pos ⟨hv, by omega, hlt⟩
    rw [hD]
    intro s b m
    refine ⟨?_, ?_⟩
    · rintro ⟨hm, hp⟩
      simp only [true_eq_decide_iff] at hp
      have ht : tokAt l a = (s, b, m) := by unfold tokAt; rw [← hm]; exact if_pos hp
      rw [ht] at hI t2 t1
      dsimp only at *
      refine ⟨by simp; omega, by omega, ⟨by omega, by omega, by simp; omega, by simpa using hI⟩, by omega⟩
    · rintro ⟨hm, hp⟩
      simp only [false_eq_decide_iff] at hp
      have ht : tokAt l a = (l.getD a.toNat 0, 0, 0) := by unfold tokAt; rw [← hm]; exact if_neg hp
      rw [ht] at hI t2
      dsimp only at *
      refine ⟨by omega, hlt, by simp; omega, by omega, ⟨by omega, by omega, by simp; omega, by simpa using hI⟩, by omega⟩
  · rw [greedy_end hge] at hI
    simp only [List.append_nil] at hI
    exact ⟨hI, by omega⟩
def V_i_TokensGreedy : Prop :=
  ∀ (l0 : List Int), (↑(List.length l0) : Int) ≤ 1099511627776 → (↑(List.length l0) : Int) ≤ 1099511627776 ∧ (true = LV l0 → (LV l0 = true ∧ (0 : Int) ≤ 0 ∧ 0 ≤ (↑(List.length l0) : Int)) ∧ ∀ (l1 : List (Int × Int × Int)), l1 = greedy l0 0 ∧
    (↑(List.length l1) : Int) ≤ 40 → l1 = greedyD l0 ∧ (↑(List.length l1) : Int) ≤ 40) ∧ (false = LV l0 → [] = greedyD l0 ∧ (↑0 : Int) ≤ 40)
theorem v_i_TokensGreedy : V_i_TokensGreedy := by
  unfold V_i_TokensGreedy
  intro l hz
  refine ⟨hz, fun hv => ⟨⟨hv.symm, by omega, by omega⟩, ?_⟩, fun hv => ?_⟩
  · rintro r ⟨rfl, hr⟩
    exact ⟨(if_pos hv.symm).symm, hr⟩
  · exact ⟨(if_neg (by rw [← hv]; simp)).symm, by simp⟩
def V_s_TokensGreedy : Prop :=
  ∀ (l0 : List Int), (↑(List.length l0) : Int) ≤ 1099511627776 → ∃ (I1 : List (Int × Int × Int) → Int → Prop), ∃ (m2 : List (Int × Int × Int) → Int → Nat), I1 [] 0 ∧ ∀ (l3 : List (Int × Int × Int)) (n4 : Int), I1 l3 n4 → (n4 < (↑(List.length
    l0) : Int) → (↑(List.length l0) : Int) ≤ 1099511627776 ∧ (true = LV l0 → ((↑(List.length l0) : Int) ≤ 1099511627776 ∧ 0 ≤ n4 ∧ n4 < (↑(List.length l0) : Int)) ∧ ∀ (n5 n6 n7 : Int), ((n5, n6, n7) = matchAt l0 n4 ∧ true = decide (0 < n7) →
    (↑(List.length l3 + List.length [(n5, n6, n7)]) : Int) ≤ 1099511627776 ∧ (-9223372036854775808 ≤ n4 + n7 ∧ n4 + n7 ≤ 9223372036854775807) ∧ I1 (l3 ++ [(n5, n6, n7)]) (n4 + n7) ∧ m2 (l3 ++ [(n5, n6, n7)]) (n4 + n7) < m2 l3 n4) ∧ ((n5, n6, n7)
    = matchAt l0 n4 ∧ false = decide (0 < n7) → 0 ≤ n4 ∧ n4 < (↑(List.length l0) : Int) ∧ (↑(List.length l3 + List.length [(List.getD l0 (Int.toNat n4) 0, 0, 0)]) : Int) ≤ 1099511627776 ∧ (-9223372036854775808 ≤ n4 + 1 ∧ n4 + (1 : Int) ≤ 9223372036854775807) ∧ I1 (l3 ++ [(List.getD l0 (Int.toNat n4) 0, 0, 0)]) (n4 + 1) ∧ m2 (l3 ++ [(List.getD l0 (Int.toNat n4) 0, 0, 0)]) (n4 + 1) < m2 l3 n4)) ∧ (false = LV l0 → l3 = greedyD l0 ∧ (↑(List.length l3) : Int) ≤ 40)) ∧ (¬n4 <
    (↑(List.length l0) : Int) → l3 = greedyD l0 ∧ (↑(List.length l3) : Int) ≤ 40)
theorem v_s_TokensGreedy : V_s_TokensGreedy := by
  unfold V_s_TokensGreedy
  intro l hz
  have fin : ∀ x, x = greedyD l → x = greedyD l ∧ (x.length : Int) ≤ 40 := fun x h => ⟨h, by rw [h]; exact (greedyD_len l).2⟩
  refine ⟨fun out a => 0 ≤ a ∧ a ≤ l.length ∧ (out.length : Int) ≤ a ∧ (0 < a → LV l = true) ∧ (LV l = true → out ++ greedy l a = greedy l 0) ∧ (a = 0 → out = []), fun out a => (l.length - a).toNat, ?_, ?_⟩ <;> dsimp only
  · simp
  rintro out a ⟨h0, h1, h2, h3, h4, h5⟩
  refine ⟨fun hlt => ⟨hz, fun hv => ⟨⟨hz, h0, hlt⟩, ?_⟩, fun hv => ?_⟩, fun hge => ?_⟩
  · have hI := h4 hv.symm
    have hl := LV_len hv.symm
    rw [greedy_step (by omega) hlt] at hI
    obtain ⟨t1, t2, t3, t4⟩ := tokAt_ok l (by omega) hlt
    intro s b m
    refine ⟨?_, ?_⟩
    · rintro ⟨hm, hp⟩
      simp only [true_eq_decide_iff] at hp
      have ht : tokAt l a = (s, b, m) := by unfold tokAt; rw [← hm]; exact if_pos hp
      rw [ht] at hI t2 t1
      dsimp only at *
      rw [show a + max m 1 = a + m by omega] at hI
      refine ⟨by simp; omega, by omega, ⟨by omega, by omega, by simp; omega, fun _ => hv.symm, fun _ => by simpa using hI, fun h => by omega⟩, by omega⟩
    · rintro ⟨hm, hp⟩
      simp only [false_eq_decide_iff] at hp
      have ht : tokAt l a = (l.getD a.toNat 0, 0, 0) := by unfold tokAt; rw [← hm]; exact if_neg hp
      rw [ht] at hI t2
      dsimp only at *
      rw [show a + max 0 1 = a + 1 by omega] at hI
      refine ⟨by omega, hlt, by simp; omega, by omega, ⟨by omega, by omega, by simp; omega, fun _ => hv.symm, fun _ => by simpa using hI, fun h => by omega⟩, by omega⟩
  · refine fin _ ?_
    have : ¬ 0 < a := fun h => by have := h3 h; rw [← hv] at this; cases this
    rw [h5 (by omega)]
    exact (if_neg (by rw [← hv]; simp)).symm
  · refine fin _ ?_
    by_cases hv : LV l = true
    · have h6 := h4 hv
      rw [greedy_end hge] at h6
      unfold greedyD
      rw [if_pos hv]; simpa using h6
    · unfold greedyD
      rw [if_neg hv]
      exact h5 (by by_cases h : 0 < a; exact absurd (h3 h) hv; omega)
def V_s_l14Token : Prop :=
  ∀ (n0 n1 n2 n3 : Int), 0 ≤ n3 ∧ n3 ≤ 40 → (n1 = 0 → (n2 = 0 → True ∧ (true = decide (0 ≤ n0 ∧ n0 ≤ 7) → (n3 < 40 → true = tokOk (n0, n1, n2) n3) ∧ (¬n3 < 40 → false = tokOk (n0, n1, n2) n3)) ∧ (false = decide (0 ≤ n0 ∧ n0 ≤ 7) → false =
    tokOk (n0, n1, n2) n3)) ∧ (¬n2 = 0 → false = tokOk (n0, n1, n2) n3)) ∧ (¬n1 = 0 → (n0 = 0 → True ∧ (true = decide (1 ≤ n1 ∧ n1 ≤ min 16 n3) → True ∧ (true = decide (2 ≤ n2 ∧ n2 ≤ 9) → (-9223372036854775808 ≤ n3 + n2 ∧ n3 + n2 ≤
    9223372036854775807) ∧ (n3 + n2 ≤ 40 → true = tokOk (n0, n1, n2) n3) ∧ (¬n3 + n2 ≤ 40 → false = tokOk (n0, n1, n2) n3)) ∧ (false = decide (2 ≤ n2 ∧ n2 ≤ 9) → false = tokOk (n0, n1, n2) n3)) ∧ (false = decide (1 ≤ n1 ∧ n1 ≤ min 16 n3) → false
    = tokOk (n0, n1, n2) n3)) ∧ (¬n0 = 0 → false = tokOk (n0, n1, n2) n3))
theorem v_s_l14Token : V_s_l14Token := by
  unfold V_s_l14Token
  rintro s b m n ⟨h0, h1⟩
  simp only [tokOk]
  grind
def V_i_TokensExpand : Prop :=
  ∀ (l0 : List (Int × Int × Int)), (↑(List.length l0) : Int) ≤ 1099511627776 → ∃ (I1 : List Int → Int → Prop), ∃ (m2 : List Int → Int → Nat), I1 [] 0 ∧ ∀ (l3 : List Int) (n4 : Int), I1 l3 n4 → (n4 < (↑(List.length l0) : Int) → 0 ≤ n4 ∧ n4 <
    (↑(List.length l0) : Int) ∧ (Prod.fst (Prod.snd (List.getD l0 (Int.toNat n4) (0, 0, 0))) = 0 → (Prod.snd (Prod.snd (List.getD l0 (Int.toNat n4) (0, 0, 0))) = 0 → True ∧ (true = decide (0 ≤ Prod.fst (List.getD l0 (Int.toNat n4) (0, 0, 0)) ∧
    Prod.fst (List.getD l0 (Int.toNat n4) (0, 0, 0)) ≤ 7) → (↑(List.length l3 + List.length [Prod.fst (List.getD l0 (Int.toNat n4) (0, 0, 0))]) : Int) ≤ 1099511627776 ∧ (40 < (↑(List.length (l3 ++ [Prod.fst (List.getD l0 (Int.toNat n4) (0, 0,
    0))])) : Int) → false = Option.isSome (expand l0) ∧ [] = Option.getD (expand l0) []) ∧ (¬40 < (↑(List.length (l3 ++ [Prod.fst (List.getD l0 (Int.toNat n4) (0, 0, 0))])) : Int) → (-9223372036854775808 ≤ n4 + 1 ∧ n4 + (1 : Int) ≤ 9223372036854775807)
    ∧ I1 (l3 ++ [Prod.fst (List.getD l0 (Int.toNat n4) (0, 0, 0))]) (n4 + 1) ∧ m2 (l3 ++ [Prod.fst (List.getD l0 (Int.toNat n4) (0, 0, 0))]) (n4 + 1) < m2 l3 n4)) ∧ (false = decide (0 ≤ Prod.fst (List.getD l0 (Int.toNat n4) (0, 0, 0)) ∧ Prod.fst
    (List.getD l0 (Int.toNat n4) (0, 0, 0)) ≤ 7) → (Prod.fst (List.getD l0 (Int.toNat n4) (0, 0, 0)) = 0 → True ∧ (true = decide (1 ≤ Prod.fst (Prod.snd (List.getD l0 (Int.toNat n4) (0, 0, 0))) ∧ Prod.fst (Prod.snd (List.getD l0 (Int.toNat n4)
    (0, 0, 0))) ≤ min 16 (↑(List.length l3) : Int)) → True ∧ (true = decide (2 ≤ Prod.snd (Prod.snd (List.getD l0 (Int.toNat n4) (0, 0, 0))) ∧ Prod.snd (Prod.snd (List.getD l0 (Int.toNat n4) (0, 0, 0))) ≤ 9) → ∃ (I5 : List Int → Int → Prop), ∃
    (m6 : List Int → Int → Nat), I5 l3 0 ∧ ∀ (l7 : List Int) (n8 : Int), I5 l7 n8 → (n8 < Prod.snd (Prod.snd (List.getD l0 (Int.toNat n4) (0, 0, 0))) → (-9223372036854775808 ≤ (↑(List.length l7) : Int) - Prod.fst (Prod.snd (List.getD l0
    (Int.toNat n4) (0, 0, 0))) ∧ (↑(List.length l7) : Int) - Prod.fst (Prod.snd (List.getD l0 (Int.toNat n4) (0, 0, 0))) ≤ 9223372036854775807) ∧ 0 ≤ (↑(List.length l7) : Int) - Prod.fst (Prod.snd (List.getD l0 (Int.toNat n4) (0, 0, 0))) ∧
    (↑(List.length l7) : Int) - Prod.fst (Prod.snd (List.getD l0 (Int.toNat n4) (0, 0, 0))) < (↑(List.length l7) : Int) ∧ Int.toNat ((↑(List.length l7) : Int) - Prod.fst (Prod.snd (List.getD l0 (Int.toNat n4) (0, 0, 0)))) < List.length l7 ∧
    (↑(List.length l7 + List.length [List.getD l7 (Int.toNat ((↑(List.length l7) : Int) - Prod.fst (Prod.snd (List.getD l0 (Int.toNat n4) (0, 0, 0))))) 0]) : Int) ≤ 1099511627776 ∧ (-9223372036854775808 ≤ n8 + 1 ∧ n8 + (1 : Int) ≤ 9223372036854775807) ∧
    I5 (l7 ++ [List.getD l7 (Int.toNat ((↑(List.length l7) : Int) - Prod.fst (Prod.snd (List.getD l0 (Int.toNat n4) (0, 0, 0))))) 0]) (n8 + 1) ∧ m6 (l7 ++ [List.getD l7 (Int.toNat ((↑(List.length l7) : Int) - Prod.fst (Prod.snd (List.getD l0
    (Int.toNat n4) (0, 0, 0))))) 0]) (n8 + 1) < m6 l7 n8) ∧ (¬n8 < Prod.snd (Prod.snd (List.getD l0 (Int.toNat n4) (0, 0, 0))) → (40 < (↑(List.length l7) : Int) → false = Option.isSome (expand l0) ∧ [] = Option.getD (expand l0) []) ∧ (¬40 <
    (↑(List.length l7) : Int) → (-9223372036854775808 ≤ n4 + 1 ∧ n4 + (1 : Int) ≤ 9223372036854775807) ∧ I1 l7 (n4 + 1) ∧ m2 l7 (n4 + 1) < m2 l3 n4))) ∧ (false = decide (2 ≤ Prod.snd (Prod.snd (List.getD l0 (Int.toNat n4) (0, 0, 0))) ∧ Prod.snd
    (Prod.snd (List.getD l0 (Int.toNat n4) (0, 0, 0))) ≤ 9) → false = Option.isSome (expand l0) ∧ [] = Option.getD (expand l0) [])) ∧ (false = decide (1 ≤ Prod.fst (Prod.snd (List.getD l0 (Int.toNat n4) (0, 0, 0))) ∧ Prod.fst (Prod.snd
    (List.getD l0 (Int.toNat n4) (0, 0, 0))) ≤ min 16 (↑(List.length l3) : Int)) → false = Option.isSome (expand l0) ∧ [] = Option.getD (expand l0) [])) ∧ (¬Prod.fst (List.getD l0 (Int.toNat n4) (0, 0, 0)) = 0 → false = Option.isSome (expand l0)
    ∧ [] = Option.getD (expand l0) []))) ∧ (¬Prod.snd (Prod.snd (List.getD l0 (Int.toNat n4) (0, 0, 0))) = 0 → (Prod.fst (List.getD l0 (Int.toNat n4) (0, 0, 0)) = 0 → True ∧ (true = decide (1 ≤ Prod.fst (Prod.snd (List.getD l0 (Int.toNat n4) (0,
    0, 0))) ∧ Prod.fst (Prod.snd (List.getD l0 (Int.toNat n4) (0, 0, 0))) ≤ min 16 (↑(List.length l3) : Int)) → True ∧ (true = decide (2 ≤ Prod.snd (Prod.snd (List.getD l0 (Int.toNat n4) (0, 0, 0))) ∧ Prod.snd (Prod.snd (List.getD l0 (Int.toNat
    n4) (0, 0, 0))) ≤ 9) → ∃ (I9 : List Int → Int → Prop), ∃ (m10 : List Int → Int → Nat), I9 l3 0 ∧ ∀ (l11 : List Int) (n12 : Int), I9 l11 n12 → (n12 < Prod.snd (Prod.snd (List.getD l0 (Int.toNat n4) (0, 0, 0))) → (-9223372036854775808 ≤
    (↑(List.length l11) : Int) - Prod.fst (Prod.snd (List.getD l0 (Int.toNat n4) (0, 0, 0))) ∧ (↑(List.length l11) : Int) - Prod.fst (Prod.snd (List.getD l0 (Int.toNat n4) (0, 0, 0))) ≤ 9223372036854775807) ∧ 0 ≤ (↑(List.length l11) : Int) -
    Prod.fst (Prod.snd (List.getD l0 (Int.toNat n4) (0, 0, 0))) ∧ (↑(List.length l11) : Int) - Prod.fst (Prod.snd (List.getD l0 (Int.toNat n4) (0, 0, 0))) < (↑(List.length l11) : Int) ∧ Int.toNat ((↑(List.length l11) : Int) - Prod.fst (Prod.snd
    (List.getD l0 (Int.toNat n4) (0, 0, 0)))) < List.length l11 ∧ (↑(List.length l11 + List.length [List.getD l11 (Int.toNat ((↑(List.length l11) : Int) - Prod.fst (Prod.snd (List.getD l0 (Int.toNat n4) (0, 0, 0))))) 0]) : Int) ≤ 1099511627776 ∧
    (-9223372036854775808 ≤ n12 + 1 ∧ n12 + (1 : Int) ≤ 9223372036854775807) ∧ I9 (l11 ++ [List.getD l11 (Int.toNat ((↑(List.length l11) : Int) - Prod.fst (Prod.snd (List.getD l0 (Int.toNat n4) (0, 0, 0))))) 0]) (n12 + 1) ∧ m10 (l11 ++ [List.getD l11
    (Int.toNat ((↑(List.length l11) : Int) - Prod.fst (Prod.snd (List.getD l0 (Int.toNat n4) (0, 0, 0))))) 0]) (n12 + 1) < m10 l11 n12) ∧ (¬n12 < Prod.snd (Prod.snd (List.getD l0 (Int.toNat n4) (0, 0, 0))) → (40 < (↑(List.length l11) : Int) →
    false = Option.isSome (expand l0) ∧ [] = Option.getD (expand l0) []) ∧ (¬40 < (↑(List.length l11) : Int) → (-9223372036854775808 ≤ n4 + 1 ∧ n4 + (1 : Int) ≤ 9223372036854775807) ∧ I1 l11 (n4 + 1) ∧ m2 l11 (n4 + 1) < m2 l3 n4))) ∧ (false = decide (2
    ≤ Prod.snd (Prod.snd (List.getD l0 (Int.toNat n4) (0, 0, 0))) ∧ Prod.snd (Prod.snd (List.getD l0 (Int.toNat n4) (0, 0, 0))) ≤ 9) → false = Option.isSome (expand l0) ∧ [] = Option.getD (expand l0) [])) ∧ (false = decide (1 ≤ Prod.fst
    (Prod.snd (List.getD l0 (Int.toNat n4) (0, 0, 0))) ∧ Prod.fst (Prod.snd (List.getD l0 (Int.toNat n4) (0, 0, 0))) ≤ min 16 (↑(List.length l3) : Int)) → false = Option.isSome (expand l0) ∧ [] = Option.getD (expand l0) [])) ∧ (¬Prod.fst
    (List.getD l0 (Int.toNat n4) (0, 0, 0)) = 0 → false = Option.isSome (expand l0) ∧ [] = Option.getD (expand l0) []))) ∧ (¬Prod.fst (Prod.snd (List.getD l0 (Int.toNat n4) (0, 0, 0))) = 0 → (Prod.fst (List.getD l0 (Int.toNat n4) (0, 0, 0)) = 0
    → True ∧ (true = decide (1 ≤ Prod.fst (Prod.snd (List.getD l0 (Int.toNat n4) (0, 0, 0))) ∧ Prod.fst (Prod.snd (List.getD l0 (Int.toNat n4) (0, 0, 0))) ≤ min 16 (↑(List.length l3) : Int)) → True ∧ (true = decide (2 ≤ Prod.snd (Prod.snd
    (List.getD l0 (Int.toNat n4) (0, 0, 0))) ∧ Prod.snd (Prod.snd (List.getD l0 (Int.toNat n4) (0, 0, 0))) ≤ 9) → ∃ (I13 : List Int → Int → Prop), ∃ (m14 : List Int → Int → Nat), I13 l3 0 ∧ ∀ (l15 : List Int) (n16 : Int), I13 l15 n16 → (n16 <
    Prod.snd (Prod.snd (List.getD l0 (Int.toNat n4) (0, 0, 0))) → (-9223372036854775808 ≤ (↑(List.length l15) : Int) - Prod.fst (Prod.snd (List.getD l0 (Int.toNat n4) (0, 0, 0))) ∧ (↑(List.length l15) : Int) - Prod.fst (Prod.snd (List.getD l0
    (Int.toNat n4) (0, 0, 0))) ≤ 9223372036854775807) ∧ 0 ≤ (↑(List.length l15) : Int) - Prod.fst (Prod.snd (List.getD l0 (Int.toNat n4) (0, 0, 0))) ∧ (↑(List.length l15) : Int) - Prod.fst (Prod.snd (List.getD l0 (Int.toNat n4) (0, 0, 0))) <
    (↑(List.length l15) : Int) ∧ Int.toNat ((↑(List.length l15) : Int) - Prod.fst (Prod.snd (List.getD l0 (Int.toNat n4) (0, 0, 0)))) < List.length l15 ∧ (↑(List.length l15 + List.length [List.getD l15 (Int.toNat ((↑(List.length l15) : Int) -
    Prod.fst (Prod.snd (List.getD l0 (Int.toNat n4) (0, 0, 0))))) 0]) : Int) ≤ 1099511627776 ∧ (-9223372036854775808 ≤ n16 + 1 ∧ n16 + (1 : Int) ≤ 9223372036854775807) ∧ I13 (l15 ++ [List.getD l15 (Int.toNat ((↑(List.length l15) : Int) - Prod.fst
    (Prod.snd (List.getD l0 (Int.toNat n4) (0, 0, 0))))) 0]) (n16 + 1) ∧ m14 (l15 ++ [List.getD l15 (Int.toNat ((↑(List.length l15) : Int) - Prod.fst (Prod.snd (List.getD l0 (Int.toNat n4) (0, 0, 0))))) 0]) (n16 + 1) < m14 l15 n16) ∧ (¬n16 <
    Prod.snd (Prod.snd (List.getD l0 (Int.toNat n4) (0, 0, 0))) → (40 < (↑(List.length l15) : Int) → false = Option.isSome (expand l0) ∧ [] = Option.getD (expand l0) []) ∧ (¬40 < (↑(List.length l15) : Int) → (-9223372036854775808 ≤ n4 + 1 ∧ n4 +
    (1 : Int) ≤ 9223372036854775807) ∧ I1 l15 (n4 + 1) ∧ m2 l15 (n4 + 1) < m2 l3 n4))) ∧ (false = decide (2 ≤ Prod.snd (Prod.snd (List.getD l0 (Int.toNat n4) (0, 0, 0))) ∧ Prod.snd (Prod.snd (List.getD l0 (Int.toNat n4) (0, 0, 0))) ≤ 9) → false =
    Option.isSome (expand l0) ∧ [] = Option.getD (expand l0) [])) ∧ (false = decide (1 ≤ Prod.fst (Prod.snd (List.getD l0 (Int.toNat n4) (0, 0, 0))) ∧ Prod.fst (Prod.snd (List.getD l0 (Int.toNat n4) (0, 0, 0))) ≤ min 16 (↑(List.length l3) :
    Int)) → false = Option.isSome (expand l0) ∧ [] = Option.getD (expand l0) [])) ∧ (¬Prod.fst (List.getD l0 (Int.toNat n4) (0, 0, 0)) = 0 → false = Option.isSome (expand l0) ∧ [] = Option.getD (expand l0) []))) ∧ (¬n4 < (↑(List.length l0) :
    Int) → true = Option.isSome (expand l0) ∧ l3 = Option.getD (expand l0) [])
theorem v_i_TokensExpand : V_i_TokensExpand := by
  unfold V_i_TokensExpand
  intro ts hz
  refine ⟨fun out i => 0 ≤ i ∧ i ≤ ts.length ∧ (out.length : Int) ≤ 40 ∧ expandFrom (ts.drop i.toNat) out = expand ts, fun out i => (ts.length - i).toNat, ?_, ?_⟩ <;> dsimp only
  · simp [expand]
  rintro out i ⟨h0, h1, h2, h3⟩
  refine ⟨fun hlt => ?_, fun hge => ?_⟩
  · obtain ⟨x, hx⟩ : ∃ x, ts.getD i.toNat (0, 0, 0) = x := ⟨_, rfl⟩
    obtain ⟨s, b, m⟩ := x
    have hn : putTok (s, b, m) out = none → false = Option.isSome (expand ts) ∧ ([] : List Int) = Option.getD (expand ts) [] := fun h => by
      have := expand_none (a := out) h0 hlt (by rw [hx]; exact h)
      rw [← h3, this]; simp
    rw [hx]
    dsimp only
    refine ⟨h0, hlt, fun hb => ⟨fun hm => ⟨trivial, fun hw => ?_, fun hw => ⟨fun hs => ⟨trivial, fun hb2 => ?_, fun hb2 => ?_⟩, fun hs => ?_⟩⟩, fun hm => ⟨fun hs => ⟨trivial, fun hb2 => ?_, fun hb2 => ?_⟩, fun hs => ?_⟩⟩, fun hb => ⟨fun hs => ⟨trivial, fun hb2 => ⟨trivial, fun hm2 => ?_, fun hm2 => ?_⟩, fun hb2 => ?_⟩, fun hs => ?_⟩⟩
    · simp only [true_eq_decide_iff] at hw
      rw [expand_put (a' := out ++ [s]) h0 hlt (by rw [hx]; exact if_pos ⟨hb, hm, hw⟩)] at h3
      refine ⟨by simp; omega, fun h40 => ?_, fun h40 => ?_⟩
      · rw [if_pos (by omega)] at h3; rw [← h3]; simp
      · rw [if_neg (by omega)] at h3; exact ⟨by omega, ⟨by omega, by omega, by omega, h3⟩, by omega⟩
    · simp only [true_eq_decide_iff] at hb2; omega
    · simp only [false_eq_decide_iff] at *; exact hn (by simp only [putTok]; rw [if_neg (by omega), if_neg (by omega)])
    · simp only [false_eq_decide_iff] at *; exact hn (by simp only [putTok]; rw [if_neg (by omega), if_neg (by omega)])
    · simp only [true_eq_decide_iff] at hb2; omega
    · simp only [false_eq_decide_iff] at *; exact hn (by simp only [putTok]; rw [if_neg (by omega), if_neg (by omega)])
    · exact hn (by simp only [putTok]; rw [if_neg (by omega), if_neg (by omega)])
    · simp only [true_eq_decide_iff] at hb2 hm2
      rw [expand_put (a' := copyBack b m.toNat out) h0 hlt (by rw [hx]; simp only [putTok]; rw [if_neg (by omega), if_pos (by omega)]), copyBack_len] at h3
      refine ⟨fun o k => 0 ≤ k ∧ k ≤ m ∧ (o.length : Int) = out.length + k ∧ copyBack b (m - k).toNat o = copyBack b m.toNat out, fun o k => (m - k).toNat, ?_, ?_⟩ <;> dsimp only
      · simp; omega
      rintro o k ⟨k0, k1, k2, k3⟩
      refine ⟨fun hk => ?_, fun hk => ?_⟩
      · rw [show (m - k).toNat = (m - (k + 1)).toNat + 1 by omega, copyBack_snoc] at k3
        exact ⟨by omega, by omega, by omega, by omega, by simp; omega, by omega, ⟨by omega, by omega, by simp; omega, k3⟩, by omega⟩
      · rw [show (m - k).toNat = 0 by omega, copyBack] at k3
        rw [← k3] at h3
        refine ⟨fun h40 => ?_, fun h40 => ?_⟩
        · rw [if_pos (by omega)] at h3; rw [← h3]; simp
        · rw [if_neg (by omega)] at h3; exact ⟨by omega, ⟨by omega, by omega, by omega, h3⟩, by omega⟩
    · simp only [false_eq_decide_iff] at *; exact hn (by simp only [putTok]; rw [if_neg (by omega), if_neg (by omega)])
    · simp only [false_eq_decide_iff] at *; exact hn (by simp only [putTok]; rw [if_neg (by omega), if_neg (by omega)])
    · exact hn (by simp only [putTok]; rw [if_neg (by omega), if_neg (by omega)])
  · rw [expand_end hge] at h3
    rw [← h3]; simp
def V_s_TokensExpand : Prop :=
  ∀ (l0 : List (Int × Int × Int)), (↑(List.length l0) : Int) ≤ 1099511627776 → ∃ (I1 : List Int → Int → Prop), ∃ (m2 : List Int → Int → Nat), I1 [] 0 ∧ ∀ (l3 : List Int) (n4 : Int), I1 l3 n4 → (n4 < (↑(List.length l0) : Int) → 0 ≤ n4 ∧ n4 <
    (↑(List.length l0) : Int) ∧ (0 ≤ (↑(List.length l3) : Int) ∧ (↑(List.length l3) : Int) ≤ 40) ∧ (true = tokOk (Prod.fst (List.getD l0 (Int.toNat n4) (0, 0, 0)), Prod.fst (Prod.snd (List.getD l0 (Int.toNat n4) (0, 0, 0))), Prod.snd (Prod.snd
    (List.getD l0 (Int.toNat n4) (0, 0, 0)))) (↑(List.length l3) : Int) → 0 ≤ n4 ∧ n4 < (↑(List.length l0) : Int) ∧ (Prod.fst (Prod.snd (List.getD l0 (Int.toNat n4) (0, 0, 0))) = 0 → 0 ≤ n4 ∧ n4 < (↑(List.length l0) : Int) ∧ (↑(List.length l3 +
    List.length [Prod.fst (List.getD l0 (Int.toNat n4) (0, 0, 0))]) : Int) ≤ 1099511627776 ∧ ∃ (I5 : List Int → Int → Prop), ∃ (m6 : List Int → Int → Nat), I5 (l3 ++ [Prod.fst (List.getD l0 (Int.toNat n4) (0, 0, 0))]) 0 ∧ ∀ (l7 : List Int) (n8 :
    Int), I5 l7 n8 → 0 ≤ n4 ∧ n4 < (↑(List.length l0) : Int) ∧ (n8 < Prod.snd (Prod.snd (List.getD l0 (Int.toNat n4) (0, 0, 0))) → 0 ≤ n4 ∧ n4 < (↑(List.length l0) : Int) ∧ (-9223372036854775808 ≤ (↑(List.length l7) : Int) - Prod.fst (Prod.snd
    (List.getD l0 (Int.toNat n4) (0, 0, 0))) ∧ (↑(List.length l7) : Int) - Prod.fst (Prod.snd (List.getD l0 (Int.toNat n4) (0, 0, 0))) ≤ 9223372036854775807) ∧ 0 ≤ (↑(List.length l7) : Int) - Prod.fst (Prod.snd (List.getD l0 (Int.toNat n4) (0,
    0, 0))) ∧ (↑(List.length l7) : Int) - Prod.fst (Prod.snd (List.getD l0 (Int.toNat n4) (0, 0, 0))) < (↑(List.length l7) : Int) ∧ Int.toNat ((↑(List.length l7) : Int) - Prod.fst (Prod.snd (List.getD l0 (Int.toNat n4) (0, 0, 0)))) < List.length
    l7 ∧ (↑(List.length l7 + List.length [List.getD l7 (Int.toNat ((↑(List.length l7) : Int) - Prod.fst (Prod.snd (List.getD l0 (Int.toNat n4) (0, 0, 0))))) 0]) : Int) ≤ 1099511627776 ∧ (-9223372036854775808 ≤ n8 + 1 ∧ n8 + (1 : Int) ≤ 9223372036854775807) ∧ I5 (l7 ++ [List.getD l7 (Int.toNat ((↑(List.length l7) : Int) - Prod.fst (Prod.snd (List.getD l0 (Int.toNat n4) (0, 0, 0))))) 0]) (n8 + 1) ∧ m6 (l7 ++ [List.getD l7 (Int.toNat ((↑(List.length l7) : Int) - Prod.fst
    (Prod.snd (List.getD l0 (Int.toNat n4) (0, 0, 0))))) 0]) (n8 + 1) < m6 l7 n8) ∧ (¬n8 < Prod.snd (Prod.snd (List.getD l0 (Int.toNat n4) (0, 0, 0))) → (-9223372036854775808 ≤ n4 + 1 ∧ n4 + (1 : Int) ≤ 9223372036854775807) ∧ I1 l7 (n4 + 1) ∧ m2 l7 (n4
    + 1) < m2 l3 n4)) ∧ (¬Prod.fst (Prod.snd (List.getD l0 (Int.toNat n4) (0, 0, 0))) = 0 → ∃ (I9 : List Int → Int → Prop), ∃ (m10 : List Int → Int → Nat), I9 l3 0 ∧ ∀ (l11 : List Int) (n12 : Int), I9 l11 n12 → 0 ≤ n4 ∧ n4 < (↑(List.length l0) :
    Int) ∧ (n12 < Prod.snd (Prod.snd (List.getD l0 (Int.toNat n4) (0, 0, 0))) → 0 ≤ n4 ∧ n4 < (↑(List.length l0) : Int) ∧ (-9223372036854775808 ≤ (↑(List.length l11) : Int) - Prod.fst (Prod.snd (List.getD l0 (Int.toNat n4) (0, 0, 0))) ∧
    (↑(List.length l11) : Int) - Prod.fst (Prod.snd (List.getD l0 (Int.toNat n4) (0, 0, 0))) ≤ 9223372036854775807) ∧ 0 ≤ (↑(List.length l11) : Int) - Prod.fst (Prod.snd (List.getD l0 (Int.toNat n4) (0, 0, 0))) ∧ (↑(List.length l11) : Int) -
    Prod.fst (Prod.snd (List.getD l0 (Int.toNat n4) (0, 0, 0))) < (↑(List.length l11) : Int) ∧ Int.toNat ((↑(List.length l11) : Int) - Prod.fst (Prod.snd (List.getD l0 (Int.toNat n4) (0, 0, 0)))) < List.length l11 ∧ (↑(List.length l11 +
    List.length [List.getD l11 (Int.toNat ((↑(List.length l11) : Int) - Prod.fst (Prod.snd (List.getD l0 (Int.toNat n4) (0, 0, 0))))) 0]) : Int) ≤ 1099511627776 ∧ (-9223372036854775808 ≤ n12 + 1 ∧ n12 + (1 : Int) ≤ 9223372036854775807) ∧ I9 (l11 ++
    [List.getD l11 (Int.toNat ((↑(List.length l11) : Int) - Prod.fst (Prod.snd (List.getD l0 (Int.toNat n4) (0, 0, 0))))) 0]) (n12 + 1) ∧ m10 (l11 ++ [List.getD l11 (Int.toNat ((↑(List.length l11) : Int) - Prod.fst (Prod.snd (List.getD l0
    (Int.toNat n4) (0, 0, 0))))) 0]) (n12 + 1) < m10 l11 n12) ∧ (¬n12 < Prod.snd (Prod.snd (List.getD l0 (Int.toNat n4) (0, 0, 0))) → (-9223372036854775808 ≤ n4 + 1 ∧ n4 + (1 : Int) ≤ 9223372036854775807) ∧ I1 l11 (n4 + 1) ∧ m2 l11 (n4 + 1) < m2 l3
    n4))) ∧ (false = tokOk (Prod.fst (List.getD l0 (Int.toNat n4) (0, 0, 0)), Prod.fst (Prod.snd (List.getD l0 (Int.toNat n4) (0, 0, 0))), Prod.snd (Prod.snd (List.getD l0 (Int.toNat n4) (0, 0, 0)))) (↑(List.length l3) : Int) → false =
    Option.isSome (expand l0) ∧ [] = Option.getD (expand l0) [])) ∧ (¬n4 < (↑(List.length l0) : Int) → true = Option.isSome (expand l0) ∧ l3 = Option.getD (expand l0) [])
theorem v_s_TokensExpand : V_s_TokensExpand := by
  unfold V_s_TokensExpand
  intro ts hz
  refine ⟨fun out i => 0 ≤ i ∧ i ≤ ts.length ∧ (out.length : Int) ≤ 40 ∧ expandFrom (ts.drop i.toNat) out = expand ts, fun out i => (ts.length - i).toNat, ?_, ?_⟩ <;> dsimp only
  · simp [expand]
  rintro out i ⟨h0, h1, h2, h3⟩
  refine ⟨fun hlt => ?_, fun hge => ?_⟩
  · obtain ⟨x, hx⟩ : ∃ x, ts.getD i.toNat (0, 0, 0) = x := ⟨_, rfl⟩
    obtain ⟨s, b, m⟩ := x
    rw [hx]
    dsimp only
    refine ⟨h0, hlt, by omega, fun hp => ⟨h0, hlt, fun hb => ?_, fun hb => ?_⟩, fun hp => ?_⟩
    · obtain ⟨rfl, h40, he⟩ := expand_sym h0 hlt hx hp.symm hb
      rw [he] at h3
      refine ⟨h0, hlt, by simp; omega, ?_⟩
      refine ⟨fun o k => k = 0 ∧ o = out ++ [s], fun o k => 0, ?_, ?_⟩ <;> dsimp only
      · simp
      rintro o k ⟨rfl, rfl⟩
      refine ⟨h0, hlt, fun h => by omega, fun _ => ⟨by omega, ⟨by omega, by omega, by simp; omega, h3⟩, by omega⟩⟩
    · obtain ⟨q1, q2, q3, q4, q5, q6, he⟩ := expand_copy h0 hlt hx hp.symm hb
      rw [he] at h3
      refine ⟨fun o k => 0 ≤ k ∧ k ≤ m ∧ (o.length : Int) = out.length + k ∧ copyBack b (m - k).toNat o = copyBack b m.toNat out, fun o k => (m - k).toNat, ?_, ?_⟩ <;> dsimp only
      · simp; omega
      rintro o k ⟨k0, k1, k2, k3⟩
      refine ⟨h0, hlt, fun hk => ?_, fun hk => ?_⟩
      · rw [show (m - k).toNat = (m - (k + 1)).toNat + 1 by omega, copyBack_snoc] at k3
        exact ⟨h0, hlt, by omega, by omega, by omega, by omega, by simp; omega, by omega, ⟨by omega, by omega, by simp; omega, k3⟩, by omega⟩
      · rw [show (m - k).toNat = 0 by omega, copyBack] at k3
        rw [← k3] at h3
        exact ⟨by omega, ⟨by omega, by omega, by omega, h3⟩, by omega⟩
    · rw [expand_bad h0 hlt hx (by omega) hp.symm] at h3
      rw [← h3]; simp
  · rw [expand_end hge] at h3
    rw [← h3]; simp
def V_i_costOf : Prop :=
  ∀ (l0 : List (Int × Int × Int)), (↑(List.length l0) : Int) ≤ 1099511627776 → ∃ (I1 : Int → Int → Prop), ∃ (m2 : Int → Int → Nat), I1 0 0 ∧ ∀ (n3 n4 : Int), I1 n3 n4 → (n4 < (↑(List.length l0) : Int) → 0 ≤ n4 ∧ n4 < (↑(List.length l0) : Int)
    ∧ (Prod.snd (Prod.snd (List.getD l0 (Int.toNat n4) (0, 0, 0))) = 0 → (-9223372036854775808 ≤ n3 + 4 ∧ n3 + (4 : Int) ≤ 9223372036854775807) ∧ (-9223372036854775808 ≤ n4 + 1 ∧ n4 + (1 : Int) ≤ 9223372036854775807) ∧ I1 (n3 + 4) (n4 + 1) ∧ m2 (n3 + 4) (n4 +
    1) < m2 n3 n4) ∧ (¬Prod.snd (Prod.snd (List.getD l0 (Int.toNat n4) (0, 0, 0))) = 0 → (-9223372036854775808 ≤ n3 + 8 ∧ n3 + (8 : Int) ≤ 9223372036854775807) ∧ (-9223372036854775808 ≤ n4 + 1 ∧ n4 + (1 : Int) ≤ 9223372036854775807) ∧ I1 (n3 + 8) (n4 + 1) ∧ m2
    (n3 + 8) (n4 + 1) < m2 n3 n4)) ∧ (¬n4 < (↑(List.length l0) : Int) → n3 = costOf l0)
theorem v_i_costOf : V_i_costOf := by
  unfold V_i_costOf
  intro ts hz
  refine ⟨fun n i => 0 ≤ i ∧ i ≤ ts.length ∧ n + costOf (ts.drop i.toNat) = costOf ts ∧ 0 ≤ n ∧ n ≤ 8 * i, fun n i => (ts.length - i).toNat, ?_, ?_⟩ <;> dsimp only
  · simp
  rintro n i ⟨h0, h1, h2, h3, h4⟩
  refine ⟨fun hlt => ?_, fun hge => ?_⟩
  · rw [cost_step h0 hlt] at h2
    refine ⟨h0, hlt, fun h => ?_, fun h => ?_⟩
    · rw [if_pos h] at h2
      exact ⟨by omega, by omega, ⟨by omega, by omega, by omega, by omega, by omega⟩, by omega⟩
    · rw [if_neg h] at h2
      exact ⟨by omega, by omega, ⟨by omega, by omega, by omega, by omega, by omega⟩, by omega⟩
  · rw [cost_end hge] at h2
    omega
def V_s_l15Cost : Prop :=
  ∀ (l0 : List (Int × Int × Int)), (↑(List.length l0) : Int) ≤ 1099511627776 → ∃ (I1 : Int → Int → Prop), ∃ (m2 : Int → Int → Nat), I1 0 0 ∧ ∀ (n3 n4 : Int), I1 n3 n4 → (n4 < (↑(List.length l0) : Int) → 0 ≤ n4 ∧ n4 < (↑(List.length l0) : Int)
    ∧ (Prod.fst (Prod.snd (List.getD l0 (Int.toNat n4) (0, 0, 0))) = 0 → (-9223372036854775808 ≤ n3 + 4 ∧ n3 + (4 : Int) ≤ 9223372036854775807) ∧ (-9223372036854775808 ≤ n4 + 1 ∧ n4 + (1 : Int) ≤ 9223372036854775807) ∧ I1 (n3 + 4) (n4 + 1) ∧ m2 (n3 + 4) (n4 +
    1) < m2 n3 n4) ∧ (¬Prod.fst (Prod.snd (List.getD l0 (Int.toNat n4) (0, 0, 0))) = 0 → (-9223372036854775808 ≤ n3 + 8 ∧ n3 + (8 : Int) ≤ 9223372036854775807) ∧ (-9223372036854775808 ≤ n4 + 1 ∧ n4 + (1 : Int) ≤ 9223372036854775807) ∧ I1 (n3 + 8) (n4 + 1) ∧ m2
    (n3 + 8) (n4 + 1) < m2 n3 n4)) ∧ (¬n4 < (↑(List.length l0) : Int) → n3 = costOf' l0)
theorem v_s_l15Cost : V_s_l15Cost := by
  unfold V_s_l15Cost
  intro ts hz
  refine ⟨fun n i => 0 ≤ i ∧ i ≤ ts.length ∧ n + costOf' (ts.drop i.toNat) = costOf' ts ∧ 0 ≤ n ∧ n ≤ 8 * i, fun n i => (ts.length - i).toNat, ?_, ?_⟩ <;> dsimp only
  · simp
  rintro n i ⟨h0, h1, h2, h3, h4⟩
  refine ⟨fun hlt => ?_, fun hge => ?_⟩
  · rw [cost'_step h0 hlt] at h2
    refine ⟨h0, hlt, fun h => ?_, fun h => ?_⟩
    · rw [if_pos h] at h2
      exact ⟨by omega, by omega, ⟨by omega, by omega, by omega, by omega, by omega⟩, by omega⟩
    · rw [if_neg h] at h2
      exact ⟨by omega, by omega, ⟨by omega, by omega, by omega, by omega, by omega⟩, by omega⟩
  · rw [cost'_end hge] at h2
    omega
def V_i_TokensCost : Prop :=
  ∀ (l0 : List (Int × Int × Int)), (↑(List.length l0) : Int) ≤ 1099511627776 → (↑(List.length l0) : Int) ≤ 1099511627776 ∧ ∀ (l1 : List Int), (true = Option.isSome (expand l0) ∧ l1 = Option.getD (expand l0) [] → (↑(List.length l0) : Int) ≤
    1099511627776 ∧ ∀ (n2 : Int), n2 = costOf l0 → n2 = if Option.isSome (expand l0) = true then costOf l0 else -1) ∧ (false = Option.isSome (expand l0) ∧ l1 = Option.getD (expand l0) [] → -1 = if Option.isSome (expand l0) = true then costOf l0
    else -1)
theorem v_i_TokensCost : V_i_TokensCost := by
  unfold V_i_TokensCost
  intro ts hz
  repeat' (first | apply And.intro | (rintro _ _ _ ⟨rfl, rfl, _, _⟩) | (rintro _ _ _ ⟨rfl, _, _, _⟩) | (rintro _ _ _ _ ⟨rfl, _, _, _⟩) | (rintro _ _ ⟨rfl, _⟩) | intro _)
  all_goals try (first | omega | with_reducible rfl | with_reducible assumption | (simp only [List.length_append, List.length_take, List.length_drop, List.length_set, List.length_cons, List.length_nil, List.length_replicate, Int.toNat_natCast] <;> omega) | (simp <;> omega))
  all_goals grind
end Go.Proofs.Ythongcikinnjlaa
