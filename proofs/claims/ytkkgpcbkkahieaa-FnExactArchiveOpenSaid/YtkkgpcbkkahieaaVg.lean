/-
  The conditions of functions, proved: g_tokens.
-/
import Derived.Test.YtkkgpcbkkahieaaM
set_option linter.unusedVariables false
set_option linter.unusedSimpArgs false
open Go Go.Ax Go.Mx
namespace Go.Proofs.Ytkkgpcbkkahieaa
def V_i_matchLong : Prop :=
  ∀ (l0 : List Int) (n1 n2 : Int), (l0.length : Int) ≤ 1099511627776 ∧ 0 ≤ n1 ∧ n1 ≤ (l0.length : Int) ∧ 1 ≤ n2 ∧ n2 ≤ n1 → ∃ (I3 : Int → Prop), ∃ (m4 : Int → Nat), I3 0 ∧ ∀ (n5 : Int), I3 n5 → (n5 < 9 → (-9223372036854775808 ≤ n1 + n5 ∧ n1 +
 n5 ≤ (9223372036854775807 : Int)) ∧ (n1 + n5 < (l0.length : Int) → (-9223372036854775808 ≤ n1 + n5 ∧ n1 + n5 ≤ (9223372036854775807 : Int)) ∧ 0 ≤ n1 + n5 ∧ n1 + n5 < (l0.length : Int) ∧ (-9223372036854775808 ≤ n1 + n5 ∧ n1 + n5 ≤
 (9223372036854775807 : Int)) ∧ (-9223372036854775808 ≤ n1 + n5 - n2 ∧ n1 + n5 - n2 ≤ (9223372036854775807 : Int)) ∧ 0 ≤ n1 + n5 - n2 ∧ n1 + n5 - n2 < (l0.length : Int) ∧ (List.getD l0 (Int.toNat (n1 + n5)) 0 = List.getD l0 (Int.toNat (n1 +
 n5 - n2)) 0 → (-9223372036854775808 ≤ n5 + 1 ∧ n5 + (1 : Int) ≤ (9223372036854775807 : Int)) ∧ I3 (n5 + 1) ∧ m4 (n5 + 1) < m4 n5) ∧ (¬List.getD l0 (Int.toNat (n1 + n5)) 0 = List.getD l0 (Int.toNat (n1 + n5 - n2)) 0 → n5 = mlong l0 n1 n2)) ∧
 (¬n1 + n5 < (l0.length : Int) → n5 = mlong l0 n1 n2)) ∧ (¬n5 < 9 → n5 = mlong l0 n1 n2)
theorem v_i_matchLong : V_i_matchLong := by
  unfold V_i_matchLong
  rintro l a k ⟨hz, h0, h1, hk0, hk1⟩
  refine ⟨fun n => 0 ≤ n ∧ n ≤ 9 ∧ a + n ≤ l.length ∧ mlong l a k = n + cpk (9 - n).toNat (l.drop (a + n).toNat) (l.drop (a + n - k).toNat), fun n => (9 - n).toNat, ?_, ?_⟩ <;> dsimp only
  · simp [mlong]; omega
  rintro n ⟨n0, n1, n2, n3⟩
  refine ⟨fun q1 => ⟨by omega, fun q2 => ⟨by omega, by omega, q2, by omega, by omega, by omega, by omega, fun he => ?_, fun he => ?_⟩, fun q2 => ?_⟩, fun q1 => ?_⟩
  · rw [show (9 - n).toNat = (9 - (n + 1)).toNat + 1 by omega, cpk_step (by omega) q2 (by omega) (by omega), if_pos he] at n3
    rw [show a + (n + 1) = a + n + 1 by omega, show a + n + 1 - k = a + n - k + 1 by omega]
    exact ⟨by omega, ⟨by omega, by omega, by omega, by omega⟩, by omega⟩
  · rw [show (9 - n).toNat = (9 - (n + 1)).toNat + 1 by omega, cpk_step (by omega) q2 (by omega) (by omega), if_neg he] at n3
    omega
  · rw [cpk_end q2] at n3; omega
  · rw [show (9 - n).toNat = 0 by omega, cpk_zero] at n3; omega
def V_s_l14Same : Prop :=
  ∀ (l0 : List Int) (n1 n2 : Int), (l0.length : Int) ≤ 1099511627776 ∧ 0 ≤ n1 ∧ n1 ≤ (l0.length : Int) ∧ 1 ≤ n2 ∧ n2 ≤ n1 → ∃ (I3 : Int → Prop), ∃ (m4 : Int → Nat), I3 0 ∧ ∀ (n5 : Int), I3 n5 → (n5 < 9 → (-9223372036854775808 ≤ n1 + n5 ∧ n1 +
 n5 ≤ (9223372036854775807 : Int)) ∧ (n1 + n5 < (l0.length : Int) → (-9223372036854775808 ≤ n1 + n5 ∧ n1 + n5 ≤ (9223372036854775807 : Int)) ∧ 0 ≤ n1 + n5 ∧ n1 + n5 < (l0.length : Int) ∧ (-9223372036854775808 ≤ n1 + n5 ∧ n1 + n5 ≤
 (9223372036854775807 : Int)) ∧ (-9223372036854775808 ≤ n1 + n5 - n2 ∧ n1 + n5 - n2 ≤ (9223372036854775807 : Int)) ∧ 0 ≤ n1 + n5 - n2 ∧ n1 + n5 - n2 < (l0.length : Int) ∧ (List.getD l0 (Int.toNat (n1 + n5)) 0 = List.getD l0 (Int.toNat (n1 +
 n5 - n2)) 0 → (-9223372036854775808 ≤ n5 + 1 ∧ n5 + (1 : Int) ≤ (9223372036854775807 : Int)) ∧ I3 (n5 + 1) ∧ m4 (n5 + 1) < m4 n5) ∧ (¬List.getD l0 (Int.toNat (n1 + n5)) 0 = List.getD l0 (Int.toNat (n1 + n5 - n2)) 0 → n5 = mlong l0 n1 n2)) ∧
 (¬n1 + n5 < (l0.length : Int) → n5 = mlong l0 n1 n2)) ∧ (¬n5 < 9 → n5 = mlong l0 n1 n2)
theorem v_s_l14Same : V_s_l14Same := by
  unfold V_s_l14Same
  rintro l a k ⟨hz, h0, h1, hk0, hk1⟩
  refine ⟨fun n => 0 ≤ n ∧ n ≤ 9 ∧ a + n ≤ l.length ∧ mlong l a k = n + cpk (9 - n).toNat (l.drop (a + n).toNat) (l.drop (a + n - k).toNat), fun n => (9 - n).toNat, ?_, ?_⟩ <;> dsimp only
  · simp [mlong]; omega
  rintro n ⟨n0, n1, n2, n3⟩
  refine ⟨fun q1 => ⟨by omega, fun q2 => ⟨by omega, by omega, q2, by omega, by omega, by omega, by omega, fun he => ?_, fun he => ?_⟩, fun q2 => ?_⟩, fun q1 => ?_⟩
  · rw [show (9 - n).toNat = (9 - (n + 1)).toNat + 1 by omega, cpk_step (by omega) q2 (by omega) (by omega), if_pos he] at n3
    rw [show a + (n + 1) = a + n + 1 by omega, show a + n + 1 - k = a + n - k + 1 by omega]
    exact ⟨by omega, ⟨by omega, by omega, by omega, by omega⟩, by omega⟩
  · rw [show (9 - n).toNat = (9 - (n + 1)).toNat + 1 by omega, cpk_step (by omega) q2 (by omega) (by omega), if_neg he] at n3
    omega
  · rw [cpk_end q2] at n3; omega
  · rw [show (9 - n).toNat = 0 by omega, cpk_zero] at n3; omega
def V_s_l14Token : Prop :=
  ∀ (n0 n1 n2 n3 : Int), 0 ≤ n3 ∧ n3 ≤ 40 → (n1 = 0 → (n2 = 0 → True ∧ (true = decide (0 ≤ n0 ∧ n0 ≤ 7) → (n3 < 40 → true = tokOk (n0, n1, n2) n3) ∧ (¬n3 < 40 → false = tokOk (n0, n1, n2) n3)) ∧ (false = decide (0 ≤ n0 ∧ n0 ≤ 7) → false =
 tokOk (n0, n1, n2) n3)) ∧ (¬n2 = 0 → false = tokOk (n0, n1, n2) n3)) ∧ (¬n1 = 0 → (n0 = 0 → True ∧ (true = decide (1 ≤ n1 ∧ n1 ≤ min 16 n3) → True ∧ (true = decide (2 ≤ n2 ∧ n2 ≤ 9) → (-9223372036854775808 ≤ n3 + n2 ∧ n3 + n2 ≤
 (9223372036854775807 : Int)) ∧ (n3 + n2 ≤ 40 → true = tokOk (n0, n1, n2) n3) ∧ (¬n3 + n2 ≤ 40 → false = tokOk (n0, n1, n2) n3)) ∧ (false = decide (2 ≤ n2 ∧ n2 ≤ 9) → false = tokOk (n0, n1, n2) n3)) ∧ (false = decide (1 ≤ n1 ∧ n1 ≤ min 16 n3)
 → false = tokOk (n0, n1, n2) n3)) ∧ (¬n0 = 0 → false = tokOk (n0, n1, n2) n3))
theorem v_s_l14Token : V_s_l14Token := by
  unfold V_s_l14Token
  rintro s b m n ⟨h0, h1⟩
  simp only [tokOk]
  grind
def V_i_TokensExpand : Prop :=
  ∀ (l0 : List (Int × Int × Int)), (l0.length : Int) ≤ 1099511627776 → ∃ (I1 : List Int → Int → Prop), ∃ (m2 : List Int → Int → Nat), I1 [] 0 ∧ ∀ (l3 : List Int) (n4 : Int), I1 l3 n4 → (n4 < (l0.length : Int) → 0 ≤ n4 ∧ n4 < (l0.length : Int)
 ∧ (Prod.fst (Prod.snd (List.getD l0 (n4.toNat) (0, 0, 0))) = 0 → (Prod.snd (Prod.snd (List.getD l0 (n4.toNat) (0, 0, 0))) = 0 → True ∧ (true = decide (0 ≤ Prod.fst (List.getD l0 (n4.toNat) (0, 0, 0)) ∧ Prod.fst (List.getD l0 (n4.toNat) (0,
 0, 0)) ≤ 7) → (↑(l3.length + List.length [Prod.fst (List.getD l0 (n4.toNat) (0, 0, 0))]) : Int) ≤ 1099511627776 ∧ (40 < (↑(List.length (l3 ++ [Prod.fst (List.getD l0 (n4.toNat) (0, 0, 0))])) : Int) → false = Option.isSome (expand l0) ∧ [] =
 Option.getD (expand l0) []) ∧ (¬40 < (↑(List.length (l3 ++ [Prod.fst (List.getD l0 (n4.toNat) (0, 0, 0))])) : Int) → (-9223372036854775808 ≤ n4 + 1 ∧ n4 + (1 : Int) ≤ (9223372036854775807 : Int)) ∧ I1 (l3 ++ [Prod.fst (List.getD l0
 (n4.toNat) (0, 0, 0))]) (n4 + 1) ∧ m2 (l3 ++ [Prod.fst (List.getD l0 (n4.toNat) (0, 0, 0))]) (n4 + 1) < m2 l3 n4)) ∧ (false = decide (0 ≤ Prod.fst (List.getD l0 (n4.toNat) (0, 0, 0)) ∧ Prod.fst (List.getD l0 (n4.toNat) (0, 0, 0)) ≤ 7) →
 (Prod.fst (List.getD l0 (n4.toNat) (0, 0, 0)) = 0 → True ∧ (true = decide (1 ≤ Prod.fst (Prod.snd (List.getD l0 (n4.toNat) (0, 0, 0))) ∧ Prod.fst (Prod.snd (List.getD l0 (n4.toNat) (0, 0, 0))) ≤ min 16 (l3.length : Int)) → True ∧ (true =
 decide (2 ≤ Prod.snd (Prod.snd (List.getD l0 (n4.toNat) (0, 0, 0))) ∧ Prod.snd (Prod.snd (List.getD l0 (n4.toNat) (0, 0, 0))) ≤ 9) → ∃ (I5 : List Int → Int → Prop), ∃ (m6 : List Int → Int → Nat), I5 l3 0 ∧ ∀ (l7 : List Int) (n8 : Int), I5 l7
 n8 → (n8 < Prod.snd (Prod.snd (List.getD l0 (n4.toNat) (0, 0, 0))) → (-9223372036854775808 ≤ (l7.length : Int) - Prod.fst (Prod.snd (List.getD l0 (n4.toNat) (0, 0, 0))) ∧ (l7.length : Int) - Prod.fst (Prod.snd (List.getD l0 (n4.toNat) (0, 0,
 0))) ≤ (9223372036854775807 : Int)) ∧ 0 ≤ (l7.length : Int) - Prod.fst (Prod.snd (List.getD l0 (n4.toNat) (0, 0, 0))) ∧ (l7.length : Int) - Prod.fst (Prod.snd (List.getD l0 (n4.toNat) (0, 0, 0))) < (l7.length : Int) ∧ Int.toNat ((l7.length :
 Int) - Prod.fst (Prod.snd (List.getD l0 (n4.toNat) (0, 0, 0)))) < l7.length ∧ (↑(l7.length + List.length [List.getD l7 (Int.toNat ((l7.length : Int) - Prod.fst (Prod.snd (List.getD l0 (n4.toNat) (0, 0, 0))))) 0]) : Int) ≤ 1099511627776 ∧
 (-9223372036854775808 ≤ n8 + 1 ∧ n8 + (1 : Int) ≤ (9223372036854775807 : Int)) ∧ I5 (l7 ++ [List.getD l7 (Int.toNat ((l7.length : Int) - Prod.fst (Prod.snd (List.getD l0 (n4.toNat) (0, 0, 0))))) 0]) (n8 + 1) ∧ m6 (l7 ++ [List.getD l7
 (Int.toNat ((l7.length : Int) - Prod.fst (Prod.snd (List.getD l0 (n4.toNat) (0, 0, 0))))) 0]) (n8 + 1) < m6 l7 n8) ∧ (¬n8 < Prod.snd (Prod.snd (List.getD l0 (n4.toNat) (0, 0, 0))) → (40 < (l7.length : Int) → false = Option.isSome (expand l0)
 ∧ [] = Option.getD (expand l0) []) ∧ (¬40 < (l7.length : Int) → (-9223372036854775808 ≤ n4 + 1 ∧ n4 + (1 : Int) ≤ (9223372036854775807 : Int)) ∧ I1 l7 (n4 + 1) ∧ m2 l7 (n4 + 1) < m2 l3 n4))) ∧ (false = decide (2 ≤ Prod.snd (Prod.snd
 (List.getD l0 (n4.toNat) (0, 0, 0))) ∧ Prod.snd (Prod.snd (List.getD l0 (n4.toNat) (0, 0, 0))) ≤ 9) → false = Option.isSome (expand l0) ∧ [] = Option.getD (expand l0) [])) ∧ (false = decide (1 ≤ Prod.fst (Prod.snd (List.getD l0 (n4.toNat)
 (0, 0, 0))) ∧ Prod.fst (Prod.snd (List.getD l0 (n4.toNat) (0, 0, 0))) ≤ min 16 (l3.length : Int)) → false = Option.isSome (expand l0) ∧ [] = Option.getD (expand l0) [])) ∧ (¬Prod.fst (List.getD l0 (n4.toNat) (0, 0, 0)) = 0 → false =
 Option.isSome (expand l0) ∧ [] = Option.getD (expand l0) []))) ∧ (¬Prod.snd (Prod.snd (List.getD l0 (n4.toNat) (0, 0, 0))) = 0 → (Prod.fst (List.getD l0 (n4.toNat) (0, 0, 0)) = 0 → True ∧ (true = decide (1 ≤ Prod.fst (Prod.snd (List.getD l0
 (n4.toNat) (0, 0, 0))) ∧ Prod.fst (Prod.snd (List.getD l0 (n4.toNat) (0, 0, 0))) ≤ min 16 (l3.length : Int)) → True ∧ (true = decide (2 ≤ Prod.snd (Prod.snd (List.getD l0 (n4.toNat) (0, 0, 0))) ∧ Prod.snd (Prod.snd (List.getD l0 (n4.toNat)
 (0, 0, 0))) ≤ 9) → ∃ (I9 : List Int → Int → Prop), ∃ (m10 : List Int → Int → Nat), I9 l3 0 ∧ ∀ (l11 : List Int) (n12 : Int), I9 l11 n12 → (n12 < Prod.snd (Prod.snd (List.getD l0 (n4.toNat) (0, 0, 0))) → (-9223372036854775808 ≤ (l11.length :
 Int) - Prod.fst (Prod.snd (List.getD l0 (n4.toNat) (0, 0, 0))) ∧ (l11.length : Int) - Prod.fst (Prod.snd (List.getD l0 (n4.toNat) (0, 0, 0))) ≤ (9223372036854775807 : Int)) ∧ 0 ≤ (l11.length : Int) - Prod.fst (Prod.snd (List.getD l0
 (n4.toNat) (0, 0, 0))) ∧ (l11.length : Int) - Prod.fst (Prod.snd (List.getD l0 (n4.toNat) (0, 0, 0))) < (l11.length : Int) ∧ Int.toNat ((l11.length : Int) - Prod.fst (Prod.snd (List.getD l0 (n4.toNat) (0, 0, 0)))) < l11.length ∧
 (↑(l11.length + List.length [List.getD l11 (Int.toNat ((l11.length : Int) - Prod.fst (Prod.snd (List.getD l0 (n4.toNat) (0, 0, 0))))) 0]) : Int) ≤ 1099511627776 ∧ (-9223372036854775808 ≤ n12 + 1 ∧ n12 + (1 : Int) ≤ (9223372036854775807 :
 Int)) ∧ I9 (l11 ++ [List.getD l11 (Int.toNat ((l11.length : Int) - Prod.fst (Prod.snd (List.getD l0 (n4.toNat) (0, 0, 0))))) 0]) (n12 + 1) ∧ m10 (l11 ++ [List.getD l11 (Int.toNat ((l11.length : Int) - Prod.fst (Prod.snd (List.getD l0
 (n4.toNat) (0, 0, 0))))) 0]) (n12 + 1) < m10 l11 n12) ∧ (¬n12 < Prod.snd (Prod.snd (List.getD l0 (n4.toNat) (0, 0, 0))) → (40 < (l11.length : Int) → false = Option.isSome (expand l0) ∧ [] = Option.getD (expand l0) []) ∧ (¬40 < (l11.length :
 Int) → (-9223372036854775808 ≤ n4 + 1 ∧ n4 + (1 : Int) ≤ (9223372036854775807 : Int)) ∧ I1 l11 (n4 + 1) ∧ m2 l11 (n4 + 1) < m2 l3 n4))) ∧ (false = decide (2 ≤ Prod.snd (Prod.snd (List.getD l0 (n4.toNat) (0, 0, 0))) ∧ Prod.snd (Prod.snd
 (List.getD l0 (n4.toNat) (0, 0, 0))) ≤ 9) → false = Option.isSome (expand l0) ∧ [] = Option.getD (expand l0) [])) ∧ (false = decide (1 ≤ Prod.fst (Prod.snd (List.getD l0 (n4.toNat) (0, 0, 0))) ∧ Prod.fst (Prod.snd (List.getD l0 (n4.toNat)
 (0, 0, 0))) ≤ min 16 (l3.length : Int)) → false = Option.isSome (expand l0) ∧ [] = Option.getD (expand l0) [])) ∧ (¬Prod.fst (List.getD l0 (n4.toNat) (0, 0, 0)) = 0 → false = Option.isSome (expand l0) ∧ [] = Option.getD (expand l0) []))) ∧
 (¬Prod.fst (Prod.snd (List.getD l0 (n4.toNat) (0, 0, 0))) = 0 → (Prod.fst (List.getD l0 (n4.toNat) (0, 0, 0)) = 0 → True ∧ (true = decide (1 ≤ Prod.fst (Prod.snd (List.getD l0 (n4.toNat) (0, 0, 0))) ∧ Prod.fst (Prod.snd (List.getD l0
 (n4.toNat) (0, 0, 0))) ≤ min 16 (l3.length : Int)) → True ∧ (true = decide (2 ≤ Prod.snd (Prod.snd (List.getD l0 (n4.toNat) (0, 0, 0))) ∧ Prod.snd (Prod.snd (List.getD l0 (n4.toNat) (0, 0, 0))) ≤ 9) → ∃ (I13 : List Int → Int → Prop), ∃ (m14
 : List Int → Int → Nat), I13 l3 0 ∧ ∀ (l15 : List Int) (n16 : Int), I13 l15 n16 → (n16 < Prod.snd (Prod.snd (List.getD l0 (n4.toNat) (0, 0, 0))) → (-9223372036854775808 ≤ (l15.length : Int) - Prod.fst (Prod.snd (List.getD l0 (n4.toNat) (0,
 0, 0))) ∧ (l15.length : Int) - Prod.fst (Prod.snd (List.getD l0 (n4.toNat) (0, 0, 0))) ≤ (9223372036854775807 : Int)) ∧ 0 ≤ (l15.length : Int) - Prod.fst (Prod.snd (List.getD l0 (n4.toNat) (0, 0, 0))) ∧ (l15.length : Int) - Prod.fst
 (Prod.snd (List.getD l0 (n4.toNat) (0, 0, 0))) < (l15.length : Int) ∧ Int.toNat ((l15.length : Int) - Prod.fst (Prod.snd (List.getD l0 (n4.toNat) (0, 0, 0)))) < l15.length ∧ (↑(l15.length + List.length [List.getD l15 (Int.toNat ((l15.length
 : Int) - Prod.fst (Prod.snd (List.getD l0 (n4.toNat) (0, 0, 0))))) 0]) : Int) ≤ 1099511627776 ∧ (-9223372036854775808 ≤ n16 + 1 ∧ n16 + (1 : Int) ≤ (9223372036854775807 : Int)) ∧ I13 (l15 ++ [List.getD l15 (Int.toNat ((l15.length : Int) -
 Prod.fst (Prod.snd (List.getD l0 (n4.toNat) (0, 0, 0))))) 0]) (n16 + 1) ∧ m14 (l15 ++ [List.getD l15 (Int.toNat ((l15.length : Int) - Prod.fst (Prod.snd (List.getD l0 (n4.toNat) (0, 0, 0))))) 0]) (n16 + 1) < m14 l15 n16) ∧ (¬n16 < Prod.snd
 (Prod.snd (List.getD l0 (n4.toNat) (0, 0, 0))) → (40 < (l15.length : Int) → false = Option.isSome (expand l0) ∧ [] = Option.getD (expand l0) []) ∧ (¬40 < (l15.length : Int) → (-9223372036854775808 ≤ n4 + 1 ∧ n4 + (1 : Int) ≤
 (9223372036854775807 : Int)) ∧ I1 l15 (n4 + 1) ∧ m2 l15 (n4 + 1) < m2 l3 n4))) ∧ (false = decide (2 ≤ Prod.snd (Prod.snd (List.getD l0 (n4.toNat) (0, 0, 0))) ∧ Prod.snd (Prod.snd (List.getD l0 (n4.toNat) (0, 0, 0))) ≤ 9) → false =
 Option.isSome (expand l0) ∧ [] = Option.getD (expand l0) [])) ∧ (false = decide (1 ≤ Prod.fst (Prod.snd (List.getD l0 (n4.toNat) (0, 0, 0))) ∧ Prod.fst (Prod.snd (List.getD l0 (n4.toNat) (0, 0, 0))) ≤ min 16 (l3.length : Int)) → false =
 Option.isSome (expand l0) ∧ [] = Option.getD (expand l0) [])) ∧ (¬Prod.fst (List.getD l0 (n4.toNat) (0, 0, 0)) = 0 → false = Option.isSome (expand l0) ∧ [] = Option.getD (expand l0) []))) ∧ (¬n4 < (l0.length : Int) → true = Option.isSome
 (expand l0) ∧ l3 = Option.getD (expand l0) [])
theorem v_i_TokensExpand : V_i_TokensExpand := by
  unfold V_i_TokensExpand
  intro ts hz
  refine ⟨fun out i => 0 ≤ i ∧ i ≤ ts.length ∧ (out.length : Int) ≤ 40 ∧ expandFrom (ts.drop i.toNat) out = expand ts, fun out i => (ts.length - i).toNat, ?_, ?_⟩ <;> dsimp only
  · simp [expand]
  rintro out i ⟨h0, h1, h2, h3⟩
  refine ⟨fun hlt => ?_, fun hge => ?_⟩
  · obtain ⟨x, hx⟩ : ∃ x, ts.getD i.toNat (0, 0, 0) = x := ⟨_, rfl⟩
    obtain ⟨s, b, m⟩ := x
    have hn : putTok (s, b, m) out = none → false = Option.isSome (expand ts) ∧ ([] : List Int) = Option.getD (expand ts) [] := fun h => by
      have := expand_none (a := out) h0 hlt (by rw [hx]; exact h)
      rw [← h3, this]; simp
    rw [hx]
    dsimp only
    refine ⟨h0, hlt, fun hb => ⟨fun hm => ⟨trivial, fun hw => ?_, fun hw => ⟨fun hs => ⟨trivial, fun hb2 => ?_, fun hb2 => ?_⟩, fun hs => ?_⟩⟩, fun hm => ⟨fun hs => ⟨trivial, fun hb2 => ?_, fun hb2 => ?_⟩, fun hs => ?_⟩⟩, fun hb => ⟨fun hs => ⟨trivial, fun hb2 => ⟨trivial, fun hm2 => ?_, fun hm2 => ?_⟩, fun hb2 => ?_⟩, fun hs => ?_⟩⟩
    · simp only [true_eq_decide_iff] at hw
      rw [expand_put (a' := out ++ [s]) h0 hlt (by rw [hx]; exact if_pos ⟨hb, hm, hw⟩)] at h3
      refine ⟨by simp; omega, fun h40 => ?_, fun h40 => ?_⟩
      · rw [if_pos (by omega)] at h3; rw [← h3]; simp
      · rw [if_neg (by omega)] at h3; exact ⟨by omega, ⟨by omega, by omega, by omega, h3⟩, by omega⟩
    · simp only [true_eq_decide_iff] at hb2; omega
    · simp only [false_eq_decide_iff] at *; exact hn (by simp only [putTok]; rw [if_neg (by omega), if_neg (by omega)])
    · simp only [false_eq_decide_iff] at *; exact hn (by simp only [putTok]; rw [if_neg (by omega), if_neg (by omega)])
    · simp only [true_eq_decide_iff] at hb2; omega
    · simp only [false_eq_decide_iff] at *; exact hn (by simp only [putTok]; rw [if_neg (by omega), if_neg (by omega)])
    · exact hn (by simp only [putTok]; rw [if_neg (by omega), if_neg (by omega)])
    · simp only [true_eq_decide_iff] at hb2 hm2
      rw [expand_put (a' := copyBack b m.toNat out) h0 hlt (by rw [hx]; simp only [putTok]; rw [if_neg (by omega), if_pos (by omega)]), copyBack_len] at h3
      refine ⟨fun o k => 0 ≤ k ∧ k ≤ m ∧ (o.length : Int) = out.length + k ∧ copyBack b (m - k).toNat o = copyBack b m.toNat out, fun o k => (m - k).toNat, ?_, ?_⟩ <;> dsimp only
      · simp; omega
      rintro o k ⟨k0, k1, k2, k3⟩
      refine ⟨fun hk => ?_, fun hk => ?_⟩
      · rw [show (m - k).toNat = (m - (k + 1)).toNat + 1 by omega, copyBack_snoc] at k3
        exact ⟨by omega, by omega, by omega, by omega, by simp; omega, by omega, ⟨by omega, by omega, by simp; omega, k3⟩, by omega⟩
      · rw [show (m - k).toNat = 0 by omega, copyBack] at k3
        rw [← k3] at h3
        refine ⟨fun h40 => ?_, fun h40 => ?_⟩
        · rw [if_pos (by omega)] at h3; rw [← h3]; simp
        · rw [if_neg (by omega)] at h3; exact ⟨by omega, ⟨by omega, by omega, by omega, h3⟩, by omega⟩
    · simp only [false_eq_decide_iff] at *; exact hn (by simp only [putTok]; rw [if_neg (by omega), if_neg (by omega)])
    · simp only [false_eq_decide_iff] at *; exact hn (by simp only [putTok]; rw [if_neg (by omega), if_neg (by omega)])
    · exact hn (by simp only [putTok]; rw [if_neg (by omega), if_neg (by omega)])
  · rw [expand_end hge] at h3
    rw [← h3]; simp
def V_s_TokensExpand : Prop :=
  ∀ (l0 : List (Int × Int × Int)), (l0.length : Int) ≤ 1099511627776 → ∃ (I1 : List Int → Int → Prop), ∃ (m2 : List Int → Int → Nat), I1 [] 0 ∧ ∀ (l3 : List Int) (n4 : Int), I1 l3 n4 → (n4 < (l0.length : Int) → 0 ≤ n4 ∧ n4 < (l0.length : Int)
 ∧ (0 ≤ (l3.length : Int) ∧ (l3.length : Int) ≤ 40) ∧ (true = tokOk (Prod.fst (List.getD l0 (n4.toNat) (0, 0, 0)), Prod.fst (Prod.snd (List.getD l0 (n4.toNat) (0, 0, 0))), Prod.snd (Prod.snd (List.getD l0 (n4.toNat) (0, 0, 0)))) (l3.length :
 Int) → 0 ≤ n4 ∧ n4 < (l0.length : Int) ∧ (Prod.fst (Prod.snd (List.getD l0 (n4.toNat) (0, 0, 0))) = 0 → 0 ≤ n4 ∧ n4 < (l0.length : Int) ∧ (↑(l3.length + List.length [Prod.fst (List.getD l0 (n4.toNat) (0, 0, 0))]) : Int) ≤ 1099511627776 ∧ ∃
 (I5 : List Int → Int → Prop), ∃ (m6 : List Int → Int → Nat), I5 (l3 ++ [Prod.fst (List.getD l0 (n4.toNat) (0, 0, 0))]) 0 ∧ ∀ (l7 : List Int) (n8 : Int), I5 l7 n8 → 0 ≤ n4 ∧ n4 < (l0.length : Int) ∧ (n8 < Prod.snd (Prod.snd (List.getD l0
 (n4.toNat) (0, 0, 0))) → 0 ≤ n4 ∧ n4 < (l0.length : Int) ∧ (-9223372036854775808 ≤ (l7.length : Int) - Prod.fst (Prod.snd (List.getD l0 (n4.toNat) (0, 0, 0))) ∧ (l7.length : Int) - Prod.fst (Prod.snd (List.getD l0 (n4.toNat) (0, 0, 0))) ≤
 (9223372036854775807 : Int)) ∧ 0 ≤ (l7.length : Int) - Prod.fst (Prod.snd (List.getD l0 (n4.toNat) (0, 0, 0))) ∧ (l7.length : Int) - Prod.fst (Prod.snd (List.getD l0 (n4.toNat) (0, 0, 0))) < (l7.length : Int) ∧ Int.toNat ((l7.length : Int) -
 Prod.fst (Prod.snd (List.getD l0 (n4.toNat) (0, 0, 0)))) < l7.length ∧ (↑(l7.length + List.length [List.getD l7 (Int.toNat ((l7.length : Int) - Prod.fst (Prod.snd (List.getD l0 (n4.toNat) (0, 0, 0))))) 0]) : Int) ≤ 1099511627776 ∧
 (-9223372036854775808 ≤ n8 + 1 ∧ n8 + (1 : Int) ≤ (9223372036854775807 : Int)) ∧ I5 (l7 ++ [List.getD l7 (Int.toNat ((l7.length : Int) - Prod.fst (Prod.snd (List.getD l0 (n4.toNat) (0, 0, 0))))) 0]) (n8 + 1) ∧ m6 (l7 ++ [List.getD l7
 (Int.toNat ((l7.length : Int) - Prod.fst (Prod.snd (List.getD l0 (n4.toNat) (0, 0, 0))))) 0]) (n8 + 1) < m6 l7 n8) ∧ (¬n8 < Prod.snd (Prod.snd (List.getD l0 (n4.toNat) (0, 0, 0))) → (-9223372036854775808 ≤ n4 + 1 ∧ n4 + (1 : Int) ≤
 (9223372036854775807 : Int)) ∧ I1 l7 (n4 + 1) ∧ m2 l7 (n4 + 1) < m2 l3 n4)) ∧ (¬Prod.fst (Prod.snd (List.getD l0 (n4.toNat) (0, 0, 0))) = 0 → ∃ (I9 : List Int → Int → Prop), ∃ (m10 : List Int → Int → Nat), I9 l3 0 ∧ ∀ (l11 : List Int) (n12 :
 Int), I9 l11 n12 → 0 ≤ n4 ∧ n4 < (l0.length : Int) ∧ (n12 < Prod.snd (Prod.snd (List.getD l0 (n4.toNat) (0, 0, 0))) → 0 ≤ n4 ∧ n4 < (l0.length : Int) ∧ (-9223372036854775808 ≤ (l11.length : Int) - Prod.fst (Prod.snd (List.getD l0 (n4.toNat)
 (0, 0, 0))) ∧ (l11.length : Int) - Prod.fst (Prod.snd (List.getD l0 (n4.toNat) (0, 0, 0))) ≤ (9223372036854775807 : Int)) ∧ 0 ≤ (l11.length : Int) - Prod.fst (Prod.snd (List.getD l0 (n4.toNat) (0, 0, 0))) ∧ (l11.length : Int) - Prod.fst
 (Prod.snd (List.getD l0 (n4.toNat) (0, 0, 0))) < (l11.length : Int) ∧ Int.toNat ((l11.length : Int) - Prod.fst (Prod.snd (List.getD l0 (n4.toNat) (0, 0, 0)))) < l11.length ∧ (↑(l11.length + List.length [List.getD l11 (Int.toNat ((l11.length
 : Int) - Prod.fst (Prod.snd (List.getD l0 (n4.toNat) (0, 0, 0))))) 0]) : Int) ≤ 1099511627776 ∧ (-9223372036854775808 ≤ n12 + 1 ∧ n12 + (1 : Int) ≤ (9223372036854775807 : Int)) ∧ I9 (l11 ++ [List.getD l11 (Int.toNat ((l11.length : Int) -
 Prod.fst (Prod.snd (List.getD l0 (n4.toNat) (0, 0, 0))))) 0]) (n12 + 1) ∧ m10 (l11 ++ [List.getD l11 (Int.toNat ((l11.length : Int) - Prod.fst (Prod.snd (List.getD l0 (n4.toNat) (0, 0, 0))))) 0]) (n12 + 1) < m10 l11 n12) ∧ (¬n12 < Prod.snd
 (Prod.snd (List.getD l0 (n4.toNat) (0, 0, 0))) → (-9223372036854775808 ≤ n4 + 1 ∧ n4 + (1 : Int) ≤ (9223372036854775807 : Int)) ∧ I1 l11 (n4 + 1) ∧ m2 l11 (n4 + 1) < m2 l3 n4))) ∧ (false = tokOk (Prod.fst (List.getD l0 (n4.toNat) (0, 0, 0)),
 Prod.fst (Prod.snd (List.getD l0 (n4.toNat) (0, 0, 0))), Prod.snd (Prod.snd (List.getD l0 (n4.toNat) (0, 0, 0)))) (l3.length : Int) → false = Option.isSome (expand l0) ∧ [] = Option.getD (expand l0) [])) ∧ (¬n4 < (l0.length : Int) → true =
 Option.isSome (expand l0) ∧ l3 = Option.getD (expand l0) [])
theorem v_s_TokensExpand : V_s_TokensExpand := by
  unfold V_s_TokensExpand
  intro ts hz
  refine ⟨fun out i => 0 ≤ i ∧ i ≤ ts.length ∧ (out.length : Int) ≤ 40 ∧ expandFrom (ts.drop i.toNat) out = expand ts, fun out i => (ts.length - i).toNat, ?_, ?_⟩ <;> dsimp only
  · simp [expand]
  rintro out i ⟨h0, h1, h2, h3⟩
  refine ⟨fun hlt => ?_, fun hge => ?_⟩
  · obtain ⟨x, hx⟩ : ∃ x, ts.getD i.toNat (0, 0, 0) = x := ⟨_, rfl⟩
    obtain ⟨s, b, m⟩ := x
    rw [hx]
    dsimp only
    refine ⟨h0, hlt, by omega, fun hp => ⟨h0, hlt, fun hb => ?_, fun hb => ?_⟩, fun hp => ?_⟩
    · obtain ⟨rfl, h40, he⟩ := expand_sym h0 hlt hx hp.symm hb
      rw [he] at h3
      refine ⟨h0, hlt, by simp; omega, ?_⟩
      refine ⟨fun o k => k = 0 ∧ o = out ++ [s], fun o k => 0, ?_, ?_⟩ <;> dsimp only
      · simp
      rintro o k ⟨rfl, rfl⟩
      refine ⟨h0, hlt, fun h => by omega, fun _ => ⟨by omega, ⟨by omega, by omega, by simp; omega, h3⟩, by omega⟩⟩
    · obtain ⟨q1, q2, q3, q4, q5, q6, he⟩ := expand_copy h0 hlt hx hp.symm hb
      rw [he] at h3
      refine ⟨fun o k => 0 ≤ k ∧ k ≤ m ∧ (o.length : Int) = out.length + k ∧ copyBack b (m - k).toNat o = copyBack b m.toNat out, fun o k => (m - k).toNat, ?_, ?_⟩ <;> dsimp only
      · simp; omega
      rintro o k ⟨k0, k1, k2, k3⟩
      refine ⟨h0, hlt, fun hk => ?_, fun hk => ?_⟩
      · rw [show (m - k).toNat = (m - (k + 1)).toNat + 1 by omega, copyBack_snoc] at k3
        exact ⟨h0, hlt, by omega, by omega, by omega, by omega, by simp; omega, by omega, ⟨by omega, by omega, by simp; omega, k3⟩, by omega⟩
      · rw [show (m - k).toNat = 0 by omega, copyBack] at k3
        rw [← k3] at h3
        exact ⟨by omega, ⟨by omega, by omega, by omega, h3⟩, by omega⟩
    · rw [expand_bad h0 hlt hx (by omega) hp.symm] at h3
      rw [← h3]; simp
  · rw [expand_end hge] at h3
    rw [← h3]; simp
end Go.Proofs.Ytkkgpcbkkahieaa
