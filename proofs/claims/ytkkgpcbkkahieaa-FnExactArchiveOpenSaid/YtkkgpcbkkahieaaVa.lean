/-
  The conditions of functions, proved: a_basic.
-/
import Derived.Test.YtkkgpcbkkahieaaM
set_option linter.unusedVariables false
set_option linter.unusedSimpArgs false
open Go Go.Ax Go.Mx
namespace Go.Proofs.Ytkkgpcbkkahieaa
def V_i_within : Prop :=
  ∀ (n0 n1 n2 : Int), True → (n1 ≤ n0 → (n0 ≤ n2 → true = decide (n1 ≤ n0 ∧ n0 ≤ n2)) ∧ (¬n0 ≤ n2 → false = decide (n1 ≤ n0 ∧ n0 ≤ n2))) ∧ (¬n1 ≤ n0 → false = decide (n1 ≤ n0 ∧ n0 ≤ n2))
theorem v_i_within : V_i_within := by
  unfold V_i_within
  intro n lo hi _
  grind
def V_s_l6In : Prop :=
  ∀ (n0 n1 n2 : Int), True → (n1 ≤ n0 → (n0 ≤ n2 → true = decide (n1 ≤ n0 ∧ n0 ≤ n2)) ∧ (¬n0 ≤ n2 → false = decide (n1 ≤ n0 ∧ n0 ≤ n2))) ∧ (¬n1 ≤ n0 → false = decide (n1 ≤ n0 ∧ n0 ≤ n2))
theorem v_s_l6In : V_s_l6In := by
  unfold V_s_l6In
  intro n lo hi _
  grind
def V_i_every : Prop :=
  ∀ (l0 : List Int) (n1 n2 : Int), (l0.length : Int) ≤ 1099511627776 → ∃ (I3 : Int → Prop), ∃ (m4 : Int → Nat), I3 0 ∧ ∀ (n5 : Int), I3 n5 → (n5 < (l0.length : Int) → 0 ≤ n5 ∧ n5 < (l0.length : Int) ∧ True ∧ (true = decide (n1 ≤ List.getD l0
 (n5.toNat) 0 ∧ List.getD l0 (n5.toNat) 0 ≤ n2) → (-9223372036854775808 ≤ n5 + 1 ∧ n5 + (1 : Int) ≤ (9223372036854775807 : Int)) ∧ I3 (n5 + 1) ∧ m4 (n5 + 1) < m4 n5) ∧ (false = decide (n1 ≤ List.getD l0 (n5.toNat) 0 ∧ List.getD l0 (n5.toNat)
 0 ≤ n2) → false = allIn n1 n2 l0)) ∧ (¬n5 < (l0.length : Int) → true = allIn n1 n2 l0)
theorem v_i_every : V_i_every := by
  unfold V_i_every
  intro l lo hi hz
  refine ⟨fun i => 0 ≤ i ∧ i ≤ l.length ∧ allIn lo hi (l.drop i.toNat) = allIn lo hi l, fun i => (l.length - i).toNat, ?_, ?_⟩ <;> dsimp only
  · simp
  rintro i ⟨h0, h1, h2⟩
  refine ⟨fun hlt => ?_, fun hge => ?_⟩
  · rw [drop_lt 0 h0 hlt, allIn] at h2
    grind
  · rw [drop_ge hge, allIn] at h2
    grind
def V_i_ListValid : Prop :=
  ∀ (l0 : List Int), (l0.length : Int) ≤ 1099511627776 → ((l0.length : Int) ≤ 40 → (l0.length : Int) ≤ 1099511627776 ∧ (true = allIn 0 7 l0 → true = LV l0) ∧ (false = allIn 0 7 l0 → false = LV l0)) ∧ (¬(l0.length : Int) ≤ 40 → false = LV l0)
theorem v_i_ListValid : V_i_ListValid := by
  unfold V_i_ListValid
  intro l hz
  grind [LV]
def V_s_ListValid : Prop :=
  ∀ (l0 : List Int), (l0.length : Int) ≤ 1099511627776 → ∃ (I1 : Int → Prop), ∃ (m2 : Int → Nat), I1 0 ∧ ∀ (n3 : Int), I1 n3 → (n3 < (l0.length : Int) → 0 ≤ n3 ∧ n3 < (l0.length : Int) ∧ True ∧ (true = decide (0 ≤ List.getD l0 (n3.toNat) 0 ∧
 List.getD l0 (n3.toNat) (0 : Int) ≤ 7) → (-9223372036854775808 ≤ n3 + 1 ∧ n3 + (1 : Int) ≤ (9223372036854775807 : Int)) ∧ I1 (n3 + 1) ∧ m2 (n3 + 1) < m2 n3) ∧ (false = decide (0 ≤ List.getD l0 (n3.toNat) 0 ∧ List.getD l0 (n3.toNat) (0 : Int)
 ≤ 7) → false = LV l0)) ∧ (¬n3 < (l0.length : Int) → ((l0.length : Int) ≤ 40 → true = LV l0) ∧ (¬(l0.length : Int) ≤ 40 → false = LV l0))
theorem v_s_ListValid : V_s_ListValid := by
  unfold V_s_ListValid
  intro l hz
  refine ⟨fun i => 0 ≤ i ∧ i ≤ l.length ∧ allIn 0 7 (l.drop i.toNat) = allIn 0 7 l, fun i => (l.length - i).toNat, ?_, ?_⟩ <;> dsimp only
  · simp
  rintro i ⟨h0, h1, h2⟩
  refine ⟨fun hlt => ?_, fun hge => ?_⟩
  · rw [drop_lt 0 h0 hlt, allIn] at h2
    grind [LV]
  · rw [drop_ge hge, allIn] at h2
    grind [LV]
def V_i_cloned : Prop :=
  ∀ (l0 : List Int), (l0.length : Int) ≤ 1099511627776 → (↑(0 + l0.length) : Int) ≤ 1099511627776 ∧ l0 = l0
theorem v_i_cloned : V_i_cloned := by
  unfold V_i_cloned
  intro l hz
  simpa using hz
def V_l_toIntS : Prop :=
  ∀ (l0 : List Int), (l0.length : Int) ≤ 1099511627776 → (l0.length : Int) = (l0.length : Int) ∧ 0 ≤ (l0.length : Int) ∧ (l0.length : Int) ≤ 1099511627776 ∧ ∃ (I1 : Int → List Int → Prop), ∃ (m2 : Int → List Int → Nat), I1 0 (List.replicate
 (Int.toNat (l0.length : Int)) 0) ∧ ∀ (n3 : Int) (l4 : List Int), I1 n3 l4 → (n3 < (l0.length : Int) → 0 ≤ n3 ∧ n3 < (l0.length : Int) ∧ 0 ≤ n3 ∧ n3 < (l4.length : Int) ∧ n3.toNat < l4.length ∧ (-9223372036854775808 ≤ n3 + 1 ∧ n3 + (1 : Int)
 ≤ (9223372036854775807 : Int)) ∧ I1 (n3 + 1) (List.set l4 (n3.toNat) (List.getD l0 (n3.toNat) 0)) ∧ m2 (n3 + 1) (List.set l4 (n3.toNat) (List.getD l0 (n3.toNat) 0)) < m2 n3 l4) ∧ (¬n3 < (l0.length : Int) → l4 = l0)
theorem v_l_toIntS : V_l_toIntS := by
  unfold V_l_toIntS
  intro l hz
  refine ⟨rfl, by omega, hz, ?_⟩
  refine ⟨fun i o => 0 ≤ i ∧ i ≤ l.length ∧ o = l.take i.toNat ++ List.replicate (l.length - i.toNat) 0, fun i o => (l.length - i).toNat, ?_, ?_⟩ <;> dsimp only
  · simp
  rintro i o ⟨h0, h1, rfl⟩
  refine ⟨fun hlt => ?_, fun hge => ?_⟩
  · have ht := len_take h0 h1
    obtain ⟨n, hn⟩ : ∃ n, l.length - i.toNat = n + 1 := ⟨l.length - i.toNat - 1, by omega⟩
    have hn' : l.length - (i + 1).toNat = n := by omega
    rw [hn, List.replicate_succ, set_at ht]
    refine ⟨h0, hlt, h0, ?_, ?_, ⟨by omega, by omega⟩, ⟨by omega, by omega, ?_⟩, by omega⟩
    · simp; omega
    · simp; omega
    · rw [take_lt 0 h0 hlt, hn']; simp
  · have : l.length - i.toNat = 0 := by omega
    rw [take_ge hge, this]; simp
def V_l_eqIntS : Prop :=
  ∀ (l0 l1 : List Int), (l0.length : Int) ≤ 1099511627776 ∧ (l1.length : Int) ≤ 1099511627776 → ((l0.length : Int) ≠ (l1.length : Int) → false = decide (l0 = l1)) ∧ (¬(l0.length : Int) ≠ (l1.length : Int) → ∃ (I2 : Int → Prop), ∃ (m3 : Int →
 Nat), I2 0 ∧ ∀ (n4 : Int), I2 n4 → (n4 < (l0.length : Int) → 0 ≤ n4 ∧ n4 < (l0.length : Int) ∧ 0 ≤ n4 ∧ n4 < (l1.length : Int) ∧ (List.getD l0 (n4.toNat) 0 ≠ List.getD l1 (n4.toNat) 0 → false = decide (l0 = l1)) ∧ (¬List.getD l0 (n4.toNat) 0
 ≠ List.getD l1 (n4.toNat) 0 → (-9223372036854775808 ≤ n4 + 1 ∧ n4 + (1 : Int) ≤ (9223372036854775807 : Int)) ∧ I2 (n4 + 1) ∧ m3 (n4 + 1) < m3 n4)) ∧ (¬n4 < (l0.length : Int) → true = decide (l0 = l1)))
theorem v_l_eqIntS : V_l_eqIntS := by
  unfold V_l_eqIntS
  rintro a b ⟨ha, hb⟩
  refine ⟨fun h => ?_, fun h => ?_⟩
  · have : a ≠ b := fun e => h (by rw [e])
    simp [this]
  refine ⟨fun i => 0 ≤ i ∧ i ≤ a.length ∧ (a.drop i.toNat = b.drop i.toNat ↔ a = b), fun i => (a.length - i).toNat, ?_, ?_⟩ <;> dsimp only
  · simp
  rintro i ⟨h0, h1, h2⟩
  refine ⟨fun hlt => ?_, fun hge => ?_⟩
  · rw [drop_lt 0 h0 hlt, drop_lt 0 h0 (show i < (b.length : Int) by omega)] at h2
    grind
  · rw [drop_ge hge, drop_ge (show ¬ i < (b.length : Int) by omega)] at h2
    simp [← h2]
def V_l_markIntS : Prop :=
  ∀ (l0 : List Int) (n1 : Int), (l0.length : Int) ≤ 1099511627776 ∧ 0 ≤ n1 ∧ n1 ≤ 1000000000000000 → ∃ (I2 : Int → Int → List Int → Prop), ∃ (m3 : Int → Int → List Int → Nat), I2 n1 0 l0 ∧ ∀ (n4 n5 : Int) (l6 : List Int), I2 n4 n5 l6 → (n5 <
 (l6.length : Int) → 0 ≤ n5 ∧ n5 < (l6.length : Int) ∧ n5.toNat < l6.length ∧ (-9223372036854775808 ≤ n4 + 1 ∧ n4 + (1 : Int) ≤ (9223372036854775807 : Int)) ∧ (-9223372036854775808 ≤ n5 + 1 ∧ n5 + (1 : Int) ≤ (9223372036854775807 : Int)) ∧ I2
 (n4 + 1) (n5 + 1) (List.set l6 (n5.toNat) n4) ∧ m3 (n4 + 1) (n5 + 1) (List.set l6 (n5.toNat) n4) < m3 n4 n5 l6) ∧ (¬n5 < (l6.length : Int) → n4 = n1 + (l0.length : Int) ∧ l6 = marks n1 (l0.length))
theorem v_l_markIntS : V_l_markIntS := by
  unfold V_l_markIntS
  rintro l k ⟨hz, hk0, hk1⟩
  refine ⟨fun n i o => 0 ≤ i ∧ i ≤ l.length ∧ n = k + i ∧ o = marks k i.toNat ++ l.drop i.toNat, fun n i o => (l.length - i).toNat, ?_, ?_⟩ <;> dsimp only
  · simp [marks]
  rintro n i o ⟨h0, h1, rfl, rfl⟩
  have ho : (marks k i.toNat ++ l.drop i.toNat).length = l.length := by simp [marks_len]; omega
  rw [ho]
  refine ⟨fun hlt => ?_, fun hge => ?_⟩
  · have ht : ((marks k i.toNat).length : Int) = i := by rw [marks_len]; omega
    have hm : marks k (i + 1).toNat = marks k i.toNat ++ [k + i] := by
      rw [show (i + 1).toNat = i.toNat + 1 by omega, marks_snoc]; congr 2; omega
    rw [drop_lt 0 h0 hlt, set_at ht, hm]
    refine ⟨h0, hlt, by omega, ⟨by omega, by omega⟩, ⟨by omega, by omega⟩, ⟨by omega, by omega, by omega, by simp⟩, by omega⟩
  · rw [drop_ge hge, show i.toNat = l.length by omega]
    simp; omega
def V_l_heldIntS : Prop :=
  ∀ (l0 : List Int) (n1 : Int), (l0.length : Int) ≤ 1099511627776 ∧ 0 ≤ n1 ∧ n1 ≤ 1000000000000000 → ∃ (I2 : Int → Int → Prop), ∃ (m3 : Int → Int → Nat), I2 n1 0 ∧ ∀ (n4 n5 : Int), I2 n4 n5 → (n5 < (l0.length : Int) → 0 ≤ n5 ∧ n5 < (l0.length
 : Int) ∧ (List.getD l0 (n5.toNat) 0 ≠ n4 → -1 = if l0 = marks n1 (l0.length) then n1 + (l0.length : Int) else -1) ∧ (¬List.getD l0 (n5.toNat) 0 ≠ n4 → (-9223372036854775808 ≤ n4 + 1 ∧ n4 + (1 : Int) ≤ (9223372036854775807 : Int)) ∧
 (-9223372036854775808 ≤ n5 + 1 ∧ n5 + (1 : Int) ≤ (9223372036854775807 : Int)) ∧ I2 (n4 + 1) (n5 + 1) ∧ m3 (n4 + 1) (n5 + 1) < m3 n4 n5)) ∧ (¬n5 < (l0.length : Int) → n4 = if l0 = marks n1 (l0.length) then n1 + (l0.length : Int) else -1)
theorem v_l_heldIntS : V_l_heldIntS := by
  unfold V_l_heldIntS
  rintro l k ⟨hz, hk0, hk1⟩
  refine ⟨fun n i => 0 ≤ i ∧ i ≤ l.length ∧ n = k + i ∧ (l.drop i.toNat = marks n (l.length - i.toNat) ↔ l = marks k l.length), fun n i => (l.length - i).toNat, ?_, ?_⟩ <;> dsimp only
  · simp
  rintro n i ⟨h0, h1, rfl, h2⟩
  refine ⟨fun hlt => ?_, fun hge => ?_⟩
  · obtain ⟨j, hj⟩ : ∃ j, l.length - i.toNat = j + 1 := ⟨l.length - i.toNat - 1, by omega⟩
    have hj' : l.length - (i + 1).toNat = j := by omega
    rw [drop_lt 0 h0 hlt, hj, marks, List.cons.injEq] at h2
    rw [hj']
    grind
  · rw [drop_ge hge, show l.length - i.toNat = 0 by omega] at h2
    rw [if_pos (h2.1 rfl)]; omega
end Go.Proofs.Ytkkgpcbkkahieaa
