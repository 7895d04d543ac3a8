/-
  The conditions of functions, proved: f_draw.
-/
import Derived.Test.YthongcikinnjlaaM
set_option linter.unusedVariables false
set_option linter.unusedSimpArgs false
open Go Go.Ax Go.Mx
namespace Go.Proofs.Ythongcikinnjlaa
def V_s_l92Pieces : Prop :=
  ∀ (l0 : List UInt8) (n1 : Int), (↑(List.length l0) : Int) ≤ 1099511627776 ∧ 0 ≤ n1 ∧ n1 ≤ 700000000 → ((↑(List.length l0) : Int) ≤ 1099511627776 ∧ 0 ≤ n1 ∧ n1 ≤ 800000000) ∧ ∀ (l2 : List UInt8) (n3 : Int) (l4 l5 : List Int), l0 = l2 ∧ n1 ≤
    n3 ∧ n3 ≤ n1 + 30000 ∧ (↑(List.length l4) : Int) ≤ 400 ∧ (↑(List.length l5) : Int) ≤ 400 → ((↑(List.length l4) : Int) ≤ 1099511627776 ∧ (↑(List.length l5) : Int) ≤ 1099511627776) ∧ ∀ (l6 : List (Int × Int × Int)), l6 = deltaD l4 l5 ∧
    (↑(List.length l6) : Int) ≤ 40 → (0 < (↑(List.length l6) : Int) → ((↑(List.length l2) : Int) ≤ 1099511627776 ∧ 0 ≤ n3 ∧ n3 ≤ 1000000000) ∧ ∀ (l7 : List UInt8) (n8 n9 : Int), l2 = l7 ∧ n8 = n3 + 1 ∧ 0 ≤ n9 ∧ (1 ≤ (↑(List.length l6) : Int) →
    n9 < (↑(List.length l6) : Int)) → ((↑(List.length l7) : Int) ≤ 1099511627776 ∧ 0 ≤ n8 ∧ n8 ≤ 1000000000) ∧ ∀ (l10 : List UInt8) (n11 n12 : Int), l7 = l10 ∧ n11 = n8 + 1 ∧ 0 ≤ n12 ∧ ((1 : Int) ≤ 16 → n12 < 16) → (n12 = 0 → ((↑(List.length l10) : Int)
    ≤ 1099511627776 ∧ 0 ≤ n11 ∧ n11 ≤ 1000000000) ∧ ∀ (l13 : List UInt8) (n14 n15 : Int), l10 = l13 ∧ n14 = n11 + 1 ∧ 0 ≤ n15 ∧ ((1 : Int) ≤ 44 → n15 < 44) → (-9223372036854775808 ≤ n15 - 1 ∧ n15 - (1 : Int) ≤ 9223372036854775807) ∧ 0 ≤ n9 ∧ n9 < (↑(List.length
    l6) : Int) ∧ Int.toNat n9 < List.length l6 ∧ l0 = l13 ∧ n1 ≤ n14 ∧ n14 ≤ n1 + 40000 ∧ (↑(List.length l4) : Int) ≤ 400 ∧ (↑(List.length (List.set l6 (Int.toNat n9) (Prod.fst (List.getD l6 (Int.toNat n9) (0, 0, 0)), n15 - 1, Prod.snd (Prod.snd
    (List.getD l6 (Int.toNat n9) (0, 0, 0)))))) : Int) ≤ 80) ∧ (¬n12 = 0 → (n12 = 1 → ((↑(List.length l10) : Int) ≤ 1099511627776 ∧ 0 ≤ n11 ∧ n11 ≤ 1000000000) ∧ ∀ (l16 : List UInt8) (n17 n18 : Int), l10 = l16 ∧ n17 = n11 + 1 ∧ 0 ≤ n18 ∧ ((1 : Int) ≤ 12
    → n18 < 12) → (-9223372036854775808 ≤ n18 - 1 ∧ n18 - (1 : Int) ≤ 9223372036854775807) ∧ 0 ≤ n9 ∧ n9 < (↑(List.length l6) : Int) ∧ Int.toNat n9 < List.length l6 ∧ l0 = l16 ∧ n1 ≤ n17 ∧ n17 ≤ n1 + 40000 ∧ (↑(List.length l4) : Int) ≤ 400 ∧
    (↑(List.length (List.set l6 (Int.toNat n9) (Prod.fst (List.getD l6 (Int.toNat n9) (0, 0, 0)), Prod.fst (Prod.snd (List.getD l6 (Int.toNat n9) (0, 0, 0))), n18 - 1))) : Int) ≤ 80) ∧ (¬n12 = 1 → (n12 = 2 → ((↑(List.length l10) : Int) ≤
    1099511627776 ∧ 0 ≤ n11 ∧ n11 ≤ 1000000000) ∧ ∀ (l19 : List UInt8) (n20 n21 : Int), l10 = l19 ∧ n20 = n11 + 1 ∧ 0 ≤ n21 ∧ ((1 : Int) ≤ 10 → n21 < 10) → (-9223372036854775808 ≤ n21 - 1 ∧ n21 - (1 : Int) ≤ 9223372036854775807) ∧ 0 ≤ n9 ∧ n9 < (↑(List.length
    l6) : Int) ∧ Int.toNat n9 < List.length l6 ∧ l0 = l19 ∧ n1 ≤ n20 ∧ n20 ≤ n1 + 40000 ∧ (↑(List.length l4) : Int) ≤ 400 ∧ (↑(List.length (List.set l6 (Int.toNat n9) (n21 - 1, Prod.fst (Prod.snd (List.getD l6 (Int.toNat n9) (0, 0, 0))),
    Prod.snd (Prod.snd (List.getD l6 (Int.toNat n9) (0, 0, 0)))))) : Int) ≤ 80) ∧ (¬n12 = 2 → (n12 = 3 → (↑(0 + List.length l6) : Int) ≤ 1099511627776 ∧ (↑(List.length l6 + List.length l6) : Int) ≤ 1099511627776 ∧ l0 = l10 ∧ n1 ≤ n11 ∧ n11 ≤ n1
    + 40000 ∧ (↑(List.length l4) : Int) ≤ 400 ∧ (↑(List.length (l6 ++ l6)) : Int) ≤ 80) ∧ (¬n12 = 3 → l0 = l10 ∧ n1 ≤ n11 ∧ n11 ≤ n1 + 40000 ∧ (↑(List.length l4) : Int) ≤ 400 ∧ (↑(List.length l6) : Int) ≤ 80))))) ∧ (¬0 < (↑(List.length l6) :
    Int) → l0 = l2 ∧ n1 ≤ n3 ∧ n3 ≤ n1 + 40000 ∧ (↑(List.length l4) : Int) ≤ 400 ∧ (↑(List.length l6) : Int) ≤ 80)
theorem v_s_l92Pieces : V_s_l92Pieces := by
  unfold V_s_l92Pieces
  rintro b p ⟨hz, h0, h1⟩
  refine ⟨by omega, ?_⟩
  rintro b' p' old list ⟨rfl, hp, hp', ho, hl⟩
  refine ⟨by omega, ?_⟩
  intro ps ⟨_, hd⟩
  repeat' (first | apply And.intro | (rintro _ _ _ ⟨rfl, rfl, _, _⟩) | (rintro _ _ _ ⟨rfl, _, _, _⟩) | (rintro _ _ _ _ ⟨rfl, _, _, _⟩) | (rintro _ _ ⟨rfl, _⟩) | intro _)
  all_goals try (first | omega | with_reducible rfl | with_reducible assumption | (simp only [List.length_append, List.length_take, List.length_drop, List.length_set, List.length_cons, List.length_nil, List.length_replicate, Int.toNat_natCast] <;> omega) | (simp <;> omega))
def V_s_DrawDeltaApply : Prop :=
  ∀ (l0 : List UInt8), (↑(List.length l0) : Int) ≤ 1099511627776 → (↑(List.length l0) : Int) ≤ 1099511627776 ∧ ∀ (l1 : List UInt8) (n2 : Int), n2 = 0 ∧ (↑(List.length l1) : Int) ≤ 2000 → ((↑(List.length l1) : Int) ≤ 1099511627776 ∧ 0 ≤ n2 ∧ n2
    ≤ 700000000) ∧ ∀ (l3 : List UInt8) (n4 : Int) (l5 : List Int) (l6 : List (Int × Int × Int)), l1 = l3 ∧ n2 ≤ n4 ∧ n4 ≤ n2 + 40000 ∧ (↑(List.length l5) : Int) ≤ 400 ∧ (↑(List.length l6) : Int) ≤ 80 → (↑(List.length l5) : Int) ≤ 400 ∧
    (↑(List.length l6) : Int) ≤ 80
theorem v_s_DrawDeltaApply : V_s_DrawDeltaApply := by
  unfold V_s_DrawDeltaApply
  intro l hz
  refine ⟨hz, ?_⟩
  rintro b p ⟨rfl, hb⟩
  refine ⟨by omega, ?_⟩
  intro b' p' old list h
  exact ⟨h.2.2.2.1, h.2.2.2.2⟩
def V_s_DrawDeltaCopied : Prop :=
  ∀ (l0 : List UInt8), (↑(List.length l0) : Int) ≤ 1099511627776 → (↑(List.length l0) : Int) ≤ 1099511627776 ∧ ∀ (l1 : List UInt8) (n2 : Int), n2 = 0 ∧ (↑(List.length l1) : Int) ≤ 2000 → ((↑(List.length l1) : Int) ≤ 1099511627776 ∧ 0 ≤ n2 ∧ n2
    ≤ 700000000) ∧ ∀ (l3 : List UInt8) (n4 : Int) (l5 : List Int) (l6 : List (Int × Int × Int)), l1 = l3 ∧ n2 ≤ n4 ∧ n4 ≤ n2 + 40000 ∧ (↑(List.length l5) : Int) ≤ 400 ∧ (↑(List.length l6) : Int) ≤ 80 → (↑(List.length l5) : Int) ≤ 400 ∧
    (↑(List.length l6) : Int) ≤ 80
theorem v_s_DrawDeltaCopied : V_s_DrawDeltaCopied := by
  unfold V_s_DrawDeltaCopied
  intro l hz
  refine ⟨hz, ?_⟩
  rintro b p ⟨rfl, hb⟩
  refine ⟨by omega, ?_⟩
  intro b' p' old list h
  exact ⟨h.2.2.2.1, h.2.2.2.2⟩
def V_l_sameInts : Prop :=
  ∀ (l0 l1 : List Int), (↑(List.length l0) : Int) ≤ 1099511627776 ∧ (↑(List.length l1) : Int) ≤ 1099511627776 → ((↑(List.length l0) : Int) ≠ (↑(List.length l1) : Int) → false = decide (l0 = l1)) ∧ (¬(↑(List.length l0) : Int) ≠ (↑(List.length
    l1) : Int) → ∃ (I2 : Int → Prop), ∃ (m3 : Int → Nat), I2 0 ∧ ∀ (n4 : Int), I2 n4 → (n4 < (↑(List.length l0) : Int) → 0 ≤ n4 ∧ n4 < (↑(List.length l0) : Int) ∧ 0 ≤ n4 ∧ n4 < (↑(List.length l1) : Int) ∧ (List.getD l0 (Int.toNat n4) 0 ≠
    List.getD l1 (Int.toNat n4) 0 → false = decide (l0 = l1)) ∧ (¬List.getD l0 (Int.toNat n4) 0 ≠ List.getD l1 (Int.toNat n4) 0 → (-9223372036854775808 ≤ n4 + 1 ∧ n4 + (1 : Int) ≤ 9223372036854775807) ∧ I2 (n4 + 1) ∧ m3 (n4 + 1) < m3 n4)) ∧ (¬n4 <
    (↑(List.length l0) : Int) → true = decide (l0 = l1)))
theorem v_l_sameInts : V_l_sameInts := by
  unfold V_l_sameInts
  rintro a b ⟨ha, hb⟩
  refine ⟨fun h => ?_, fun h => ?_⟩
  · have : a ≠ b := fun e => h (by rw [e])
    simp [this]
  refine ⟨fun i => 0 ≤ i ∧ i ≤ a.length ∧ (a.drop i.toNat = b.drop i.toNat ↔ a = b), fun i => (a.length - i).toNat, ?_, ?_⟩ <;> dsimp only
  · simp
  rintro i ⟨h0, h1, h2⟩
  refine ⟨fun hlt => ?_, fun hge => ?_⟩
  · rw [drop_lt 0 h0 hlt, drop_lt 0 h0 (show i < (b.length : Int) by omega)] at h2
    grind
  · rw [drop_ge hge, drop_ge (show ¬ i < (b.length : Int) by omega)] at h2
    simp [← h2]
end Go.Proofs.Ythongcikinnjlaa
