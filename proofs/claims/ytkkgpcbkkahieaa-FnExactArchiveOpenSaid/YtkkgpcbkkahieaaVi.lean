/-
  The conditions of functions, proved: i_entry.
-/
import Derived.Test.YtkkgpcbkkahieaaM
set_option linter.unusedVariables false
set_option linter.unusedSimpArgs false
open Go Go.Ax Go.Mx
namespace Go.Proofs.Ytkkgpcbkkahieaa
def V_l_eqEntry : Prop :=
  ∀ (n0 : Int) (l1 : List Int) (n2 : Int) (l3 : List Int), (l1.length : Int) ≤ 1099511627776 ∧ (l3.length : Int) ≤ 1099511627776 → (n0 ≠ n2 → false = decide ((n0, l1) = (n2, l3))) ∧ (¬n0 ≠ n2 → ((l1.length : Int) ≤ 1099511627776 ∧ (l3.length :
 Int) ≤ 1099511627776) ∧ (true = decide (l1 = l3) → true = decide ((n0, l1) = (n2, l3))) ∧ (false = decide (l1 = l3) → false = decide ((n0, l1) = (n2, l3))))
theorem v_l_eqEntry : V_l_eqEntry := by
  unfold V_l_eqEntry
  rintro n l n2 l2 ⟨h1, h2⟩
  simp only [Prod.mk.injEq]
  grind
def V_l_eqEntryS : Prop :=
  ∀ (l0 l1 : List (Int × List Int)), szE l0 ≤ 2000000 ∧ szE l1 ≤ 2000000 → ((l0.length : Int) ≠ (l1.length : Int) → false = decide (l0 = l1)) ∧ (¬(l0.length : Int) ≠ (l1.length : Int) → ∃ (I2 : Int → Prop), ∃ (m3 : Int → Nat), I2 0 ∧ ∀ (n4 :
 Int), I2 n4 → (n4 < (l0.length : Int) → 0 ≤ n4 ∧ n4 < (l0.length : Int) ∧ 0 ≤ n4 ∧ n4 < (l1.length : Int) ∧ (∃ (b : Bool), b = decide ((Prod.fst (List.getD l0 (n4.toNat) (0, [])), Prod.snd (List.getD l0 (n4.toNat) (0, []))) = (Prod.fst
 (List.getD l1 (n4.toNat) (0, [])), Prod.snd (List.getD l1 (n4.toNat) (0, []))))) ∧ ((↑(List.length (Prod.snd (List.getD l0 (n4.toNat) (0, [])))) : Int) ≤ 1099511627776 ∧ (↑(List.length (Prod.snd (List.getD l1 (n4.toNat) (0, [])))) : Int) ≤
 1099511627776) ∧ (true = decide ((Prod.fst (List.getD l0 (n4.toNat) (0, [])), Prod.snd (List.getD l0 (n4.toNat) (0, []))) = (Prod.fst (List.getD l1 (n4.toNat) (0, [])), Prod.snd (List.getD l1 (n4.toNat) (0, [])))) → (-9223372036854775808 ≤
 n4 + 1 ∧ n4 + (1 : Int) ≤ (9223372036854775807 : Int)) ∧ I2 (n4 + 1) ∧ m3 (n4 + 1) < m3 n4) ∧ (false = decide ((Prod.fst (List.getD l0 (n4.toNat) (0, [])), Prod.snd (List.getD l0 (n4.toNat) (0, []))) = (Prod.fst (List.getD l1 (n4.toNat) (0,
 [])), Prod.snd (List.getD l1 (n4.toNat) (0, [])))) → false = decide (l0 = l1))) ∧ (¬n4 < (l0.length : Int) → true = decide (l0 = l1)))
theorem v_l_eqEntryS : V_l_eqEntryS := by
  unfold V_l_eqEntryS
  rintro a b ⟨ha, hb⟩
  have hsa := sumIn_nonneg a
  have hsb := sumIn_nonneg b
  have hla : (a.length : Int) ≤ 2000000 := by unfold szE at ha; omega
  refine ⟨fun h => ?_, fun h => ?_⟩
  · have : a ≠ b := fun e => h (by rw [e])
    simp [this]
  refine ⟨fun i => 0 ≤ i ∧ i ≤ a.length ∧ (a.drop i.toNat = b.drop i.toNat ↔ a = b), fun i => (a.length - i).toNat, ?_, ?_⟩ <;> dsimp only
  · simp
  rintro i ⟨h0, h1, h2⟩
  refine ⟨fun hlt => ?_, fun hge => ?_⟩
  · have e1 := ent_len h0 hlt
    have e2 := ent_len (l := b) h0 (by omega)
    rw [drop_lt (0, []) h0 hlt, drop_lt (0, []) h0 (show i < (b.length : Int) by omega), List.cons.injEq] at h2
    refine ⟨h0, hlt, h0, by omega, ⟨_, rfl⟩, ⟨by omega, by omega⟩, fun h => ?_, fun h => ?_⟩
    · simp only [true_eq_decide_iff] at h
      exact ⟨by omega, ⟨by omega, by omega, by rw [← h2]; exact ⟨fun q => ⟨h, q⟩, fun q => q.2⟩⟩, by omega⟩
    · simp only [false_eq_decide_iff] at h
      have : ¬ a = b := fun e => h (h2.2 e).1
      simp [this]
  · rw [drop_ge hge, drop_ge (show ¬ i < (b.length : Int) by omega)] at h2
    simp [← h2]
def V_i_EntriesValid : Prop :=
  ∀ (l0 : List (Int × List Int)), szE l0 ≤ 2000000 → ∃ (I1 : Int → Prop), ∃ (m2 : Int → Nat), I1 0 ∧ ∀ (n3 : Int), I1 n3 → (n3 < (l0.length : Int) → 0 ≤ n3 ∧ n3 < (l0.length : Int) ∧ (∃ (b : Bool), b = decide (1 ≤ Prod.fst (List.getD l0
 (n3.toNat) (0, [])) ∧ Prod.fst (List.getD l0 (n3.toNat) (0, [])) ≤ 20)) ∧ True ∧ (true = decide (1 ≤ Prod.fst (List.getD l0 (n3.toNat) (0, [])) ∧ Prod.fst (List.getD l0 (n3.toNat) (0, [])) ≤ 20) → (∃ (b : Bool), b = LV (Prod.snd (List.getD
 l0 (n3.toNat) (0, [])))) ∧ (↑(List.length (Prod.snd (List.getD l0 (n3.toNat) (0, [])))) : Int) ≤ 1099511627776 ∧ (true = LV (Prod.snd (List.getD l0 (n3.toNat) (0, []))) → (0 < n3 → (-9223372036854775808 ≤ n3 - 1 ∧ n3 - (1 : Int) ≤
 (9223372036854775807 : Int)) ∧ 0 ≤ n3 - 1 ∧ n3 - 1 < (l0.length : Int) ∧ (Prod.fst (List.getD l0 (n3.toNat) (0, [])) ≤ Prod.fst (List.getD l0 (Int.toNat (n3 - 1)) (0, [])) → false = entOk l0) ∧ (¬Prod.fst (List.getD l0 (n3.toNat) (0, [])) ≤
 Prod.fst (List.getD l0 (Int.toNat (n3 - 1)) (0, [])) → (-9223372036854775808 ≤ n3 + 1 ∧ n3 + (1 : Int) ≤ (9223372036854775807 : Int)) ∧ I1 (n3 + 1) ∧ m2 (n3 + 1) < m2 n3)) ∧ (¬0 < n3 → (-9223372036854775808 ≤ n3 + 1 ∧ n3 + (1 : Int) ≤
 (9223372036854775807 : Int)) ∧ I1 (n3 + 1) ∧ m2 (n3 + 1) < m2 n3)) ∧ (false = LV (Prod.snd (List.getD l0 (n3.toNat) (0, []))) → false = entOk l0)) ∧ (false = decide (1 ≤ Prod.fst (List.getD l0 (n3.toNat) (0, [])) ∧ Prod.fst (List.getD l0
 (n3.toNat) (0, [])) ≤ 20) → false = entOk l0)) ∧ (¬n3 < (l0.length : Int) → ((l0.length : Int) ≤ 5 → true = entOk l0) ∧ (¬(l0.length : Int) ≤ 5 → false = entOk l0))
theorem v_i_EntriesValid : V_i_EntriesValid := by
  unfold V_i_EntriesValid
  intro l hs
  have hsz := sumIn_nonneg l
  have hz : (l.length : Int) ≤ 2000000 := by unfold szE at hs; omega
  have hno : entFrom none l = false → false = entOk l := fun h => by unfold entOk; rw [h]; rfl
  refine ⟨fun i => 0 ≤ i ∧ i ≤ l.length ∧ entFrom (prevOf l i) (l.drop i.toNat) = entFrom none l, fun i => (l.length - i).toNat, ?_, ?_⟩ <;> dsimp only
  · simp [prevOf]
  rintro i ⟨h0, h1, hI⟩
  refine ⟨fun hlt => ?_, fun hge => ?_⟩
  · have hel := ent_len h0 hlt
    rw [ent_step h0 hlt] at hI
    generalize entFrom (prevOf l (i + 1)) (l.drop (i + 1).toNat) = F at *
    generalize l.getD i.toNat (0, []) = x at *
    generalize l.getD (i - 1).toNat (0, []) = y at *
    refine ⟨h0, hlt, ⟨_, rfl⟩, trivial, fun h => ⟨⟨_, rfl⟩, by omega, fun hv => ⟨fun hi => ⟨by omega, by omega, by omega, fun hn => hno ?_, fun hn => ?_⟩, fun hi => ?_⟩, fun hv => hno ?_⟩, fun h => hno ?_⟩
    · rw [← hI, if_pos hi, decide_eq_false (by omega : ¬ y.1 < x.1)]; simp
    · rw [if_pos hi, decide_eq_true (by omega : y.1 < x.1), ← hv, ← h] at hI
      exact ⟨by omega, ⟨by omega, by omega, by simpa using hI⟩, by omega⟩
    · rw [if_neg hi, ← hv, ← h] at hI
      exact ⟨by omega, ⟨by omega, by omega, by simpa using hI⟩, by omega⟩
    · rw [← hI, ← hv]; simp
    · rw [← hI, ← h]; simp
  · rw [ent_end hge] at hI
    unfold entOk
    rw [← hI]
    exact ⟨fun h => by simp; omega, fun h => by simp; omega⟩
def V_s_EntriesValid : Prop :=
  ∀ (l0 : List (Int × List Int)), szE l0 ≤ 2000000 → ∃ (I1 : Int → Prop), ∃ (m2 : Int → Nat), I1 0 ∧ ∀ (n3 : Int), I1 n3 → (n3 < (l0.length : Int) → 0 ≤ n3 ∧ n3 < (l0.length : Int) ∧ (∃ (b : Bool), b = decide (1 ≤ Prod.fst (List.getD l0
 (n3.toNat) (0, [])) ∧ Prod.fst (List.getD l0 (n3.toNat) (0, [])) ≤ 20)) ∧ True ∧ (true = decide (1 ≤ Prod.fst (List.getD l0 (n3.toNat) (0, [])) ∧ Prod.fst (List.getD l0 (n3.toNat) (0, [])) ≤ 20) → 0 ≤ n3 ∧ n3 < (l0.length : Int) ∧ (∃ (b :
 Bool), b = LV (Prod.snd (List.getD l0 (n3.toNat) (0, [])))) ∧ (↑(List.length (Prod.snd (List.getD l0 (n3.toNat) (0, [])))) : Int) ≤ 1099511627776 ∧ (true = LV (Prod.snd (List.getD l0 (n3.toNat) (0, []))) → (0 < n3 → (-9223372036854775808 ≤
 n3 - 1 ∧ n3 - (1 : Int) ≤ (9223372036854775807 : Int)) ∧ 0 ≤ n3 - 1 ∧ n3 - 1 < (l0.length : Int) ∧ 0 ≤ n3 ∧ n3 < (l0.length : Int) ∧ (Prod.fst (List.getD l0 (n3.toNat) (0, [])) ≤ Prod.fst (List.getD l0 (Int.toNat (n3 - 1)) (0, [])) → false =
 entOk l0) ∧ (¬Prod.fst (List.getD l0 (n3.toNat) (0, [])) ≤ Prod.fst (List.getD l0 (Int.toNat (n3 - 1)) (0, [])) → (-9223372036854775808 ≤ n3 + 1 ∧ n3 + (1 : Int) ≤ (9223372036854775807 : Int)) ∧ I1 (n3 + 1) ∧ m2 (n3 + 1) < m2 n3)) ∧ (¬0 < n3
 → (-9223372036854775808 ≤ n3 + 1 ∧ n3 + (1 : Int) ≤ (9223372036854775807 : Int)) ∧ I1 (n3 + 1) ∧ m2 (n3 + 1) < m2 n3)) ∧ (false = LV (Prod.snd (List.getD l0 (n3.toNat) (0, []))) → false = entOk l0)) ∧ (false = decide (1 ≤ Prod.fst (List.getD
 l0 (n3.toNat) (0, [])) ∧ Prod.fst (List.getD l0 (n3.toNat) (0, [])) ≤ 20) → false = entOk l0)) ∧ (¬n3 < (l0.length : Int) → ((l0.length : Int) ≤ 5 → true = entOk l0) ∧ (¬(l0.length : Int) ≤ 5 → false = entOk l0))
theorem v_s_EntriesValid : V_s_EntriesValid := by
  unfold V_s_EntriesValid
  intro l hs
  have hsz := sumIn_nonneg l
  have hz : (l.length : Int) ≤ 2000000 := by unfold szE at hs; omega
  have hno : entFrom none l = false → false = entOk l := fun h => by unfold entOk; rw [h]; rfl
  refine ⟨fun i => 0 ≤ i ∧ i ≤ l.length ∧ entFrom (prevOf l i) (l.drop i.toNat) = entFrom none l, fun i => (l.length - i).toNat, ?_, ?_⟩ <;> dsimp only
  · simp [prevOf]
  rintro i ⟨h0, h1, hI⟩
  refine ⟨fun hlt => ?_, fun hge => ?_⟩
  · have hel := ent_len h0 hlt
    rw [ent_step h0 hlt] at hI
    generalize entFrom (prevOf l (i + 1)) (l.drop (i + 1).toNat) = F at *
    generalize l.getD i.toNat (0, []) = x at *
    generalize l.getD (i - 1).toNat (0, []) = y at *
    refine ⟨h0, hlt, ⟨_, rfl⟩, trivial, fun h => ⟨h0, hlt, ⟨_, rfl⟩, by omega, fun hv => ⟨fun hi => ⟨by omega, by omega, by omega, h0, hlt, fun hn => hno ?_, fun hn => ?_⟩, fun hi => ?_⟩, fun hv => hno ?_⟩, fun h => hno ?_⟩
    · rw [← hI, if_pos hi, decide_eq_false (by omega : ¬ y.1 < x.1)]; simp
    · rw [if_pos hi, decide_eq_true (by omega : y.1 < x.1), ← hv, ← h] at hI
      exact ⟨by omega, ⟨by omega, by omega, by simpa using hI⟩, by omega⟩
    · rw [if_neg hi, ← hv, ← h] at hI
      exact ⟨by omega, ⟨by omega, by omega, by simpa using hI⟩, by omega⟩
    · rw [← hI, ← hv]; simp
    · rw [← hI, ← h]; simp
  · rw [ent_end hge] at hI
    unfold entOk
    rw [← hI]
    exact ⟨fun h => by simp; omega, fun h => by simp; omega⟩
end Go.Proofs.Ytkkgpcbkkahieaa
