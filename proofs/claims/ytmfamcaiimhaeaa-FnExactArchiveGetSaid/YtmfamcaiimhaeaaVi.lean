/-
  The conditions of functions, proved: i_entry.
-/
import Derived.Test.YtmfamcaiimhaeaaM
set_option linter.unusedVariables false
set_option linter.unusedSimpArgs false
open Go Go.Ax Go.Mx
namespace Go.Proofs.Ytmfamcaiimhaeaa
def V_l_toEntry : Prop :=
  ∀ (n0 : Int) (l1 : List Int), (↑(List.length l1) : Int) ≤ 1099511627776 → (↑(List.length l1) : Int) ≤ 1099511627776 ∧ ∀ (l2 : List Int), l2 = l1 → n0 = n0 ∧ l2 = l1
theorem v_l_toEntry : V_l_toEntry := by
  unfold V_l_toEntry
  repeat' (first | apply And.intro | (rintro _ _ _ ⟨rfl, rfl, _, _⟩) | (rintro _ _ _ ⟨rfl, _, _, _⟩) | (rintro _ _ _ _ ⟨rfl, _, _, _⟩) | (rintro _ _ ⟨rfl, _⟩) | intro _)
  all_goals try (first | omega | with_reducible rfl | with_reducible assumption | (simp only [List.length_append, List.length_take, List.length_drop, List.length_set, List.length_cons, List.length_nil, List.length_replicate, Int.toNat_natCast] <;> omega) | (simp <;> omega))
def V_l_toEntryS : Prop :=
  ∀ (l0 : List (Int × List Int)), szE l0 ≤ 2000000 → (↑(List.length l0) : Int) = (↑(List.length l0) : Int) ∧ 0 ≤ (↑(List.length l0) : Int) ∧ (↑(List.length l0) : Int) ≤ 1099511627776 ∧ ∃ (I1 : Int → List (Int × List Int) → Prop), ∃ (m2 : Int →
    List (Int × List Int) → Nat), I1 0 (List.replicate (Int.toNat (↑(List.length l0) : Int)) (0, [])) ∧ ∀ (n3 : Int) (l4 : List (Int × List Int)), I1 n3 l4 → (n3 < (↑(List.length l0) : Int) → 0 ≤ n3 ∧ n3 < (↑(List.length l0) : Int) ∧
    (↑(List.length (Prod.snd (List.getD l0 (Int.toNat n3) (0, [])))) : Int) ≤ 1099511627776 ∧ ∀ (n5 : Int) (l6 : List Int), n5 = Prod.fst (List.getD l0 (Int.toNat n3) (0, [])) ∧ l6 = Prod.snd (List.getD l0 (Int.toNat n3) (0, [])) → 0 ≤ n3 ∧ n3 <
    (↑(List.length l4) : Int) ∧ Int.toNat n3 < List.length l4 ∧ (-9223372036854775808 ≤ n3 + 1 ∧ n3 + (1 : Int) ≤ (9223372036854775807 : Int)) ∧ I1 (n3 + 1) (List.set l4 (Int.toNat n3) (n5, l6)) ∧ m2 (n3 + 1) (List.set l4 (Int.toNat n3) (n5, l6)) < m2 n3 l4) ∧
    (¬n3 < (↑(List.length l0) : Int) → l4 = l0)
theorem v_l_toEntryS : V_l_toEntryS := by
  unfold V_l_toEntryS
  intro l hs
  have hsz := sumIn_nonneg l
  have hz : (l.length : Int) ≤ 2000000 := by unfold szE at hs; omega
  refine ⟨rfl, by omega, by omega, ?_⟩
  refine ⟨fun i o => 0 ≤ i ∧ i ≤ l.length ∧ o = l.take i.toNat ++ List.replicate (l.length - i.toNat) (0, []), fun i o => (l.length - i).toNat, ?_, ?_⟩ <;> dsimp only
  · simp
  rintro i o ⟨h0, h1, rfl⟩
  refine ⟨fun hlt => ?_, fun hge => ?_⟩
  · have ht := len_take h0 h1
    have hel := ent_len h0 hlt
    obtain ⟨n, hn⟩ : ∃ n, l.length - i.toNat = n + 1 := ⟨l.length - i.toNat - 1, by omega⟩
    have hn' : l.length - (i + 1).toNat = n := by omega
    rw [hn, List.replicate_succ, hn', take_lt (0, []) h0 hlt]
    have hlen : (l.take i.toNat ++ (0, []) :: List.replicate n ((0, []) : En)).length = l.length := by simp; omega
    rw [hlen]
    refine ⟨h0, hlt, by omega, ?_⟩
    rintro a b ⟨rfl, rfl⟩
    rw [set_at ht]
    refine ⟨h0, hlt, by omega, by omega, ⟨by omega, by omega, by simp⟩, by omega⟩
  · have : l.length - i.toNat = 0 := by omega
    rw [take_ge hge, this]; simp
def V_l_szIntS : Prop :=
  ∀ (l0 : List Int) (n1 : Int), (↑(List.length l0) : Int) ≤ (9223372036854775807 : Int) ∧ 0 ≤ n1 ∧ n1 ≤ 1000000000000000000 → (-9223372036854775808 ≤ n1 - (↑(List.length l0) : Int) ∧ n1 - (↑(List.length l0) : Int) ≤ (9223372036854775807 : Int)) ∧ (n1 -
    (↑(List.length l0) : Int) < 0 → -1 = if n1 - (↑(List.length l0) : Int) < 0 then -1 else n1 - (↑(List.length l0) : Int)) ∧ (¬n1 - (↑(List.length l0) : Int) < 0 → n1 - (↑(List.length l0) : Int) = if n1 - (↑(List.length l0) : Int) < 0 then -1
    else n1 - (↑(List.length l0) : Int))
theorem v_l_szIntS : V_l_szIntS := by
  unfold V_l_szIntS
  grind
def V_l_szEntry : Prop :=
  ∀ (n0 : Int) (l1 : List Int) (n2 : Int), (↑(List.length l1) : Int) ≤ (9223372036854775807 : Int) ∧ 0 ≤ n2 ∧ n2 ≤ 1000000000000000000 → ((↑(List.length l1) : Int) ≤ (9223372036854775807 : Int) ∧ 0 ≤ n2 ∧ n2 ≤ 1000000000000000000) ∧ ∀ (n3 : Int), (n3 = if n2
    - (↑(List.length l1) : Int) < 0 then -1 else n2 - (↑(List.length l1) : Int)) → (n3 < 0 → -1 = if n2 - (↑(List.length l1) : Int) < 0 then -1 else n2 - (↑(List.length l1) : Int)) ∧ (¬n3 < 0 → n3 = if n2 - (↑(List.length l1) : Int) < 0 then -1
    else n2 - (↑(List.length l1) : Int))
theorem v_l_szEntry : V_l_szEntry := by
  unfold V_l_szEntry
  grind
def V_l_szEntryS : Prop :=
  ∀ (l0 : List (Int × List Int)) (n1 : Int), ((↑(List.length l0) : Int) ≤ (9223372036854775807 : Int) ∧ Ez l0) ∧ 0 ≤ n1 ∧ n1 ≤ 1000000000000000000 → (-9223372036854775808 ≤ n1 - (↑(List.length l0) : Int) ∧ n1 - (↑(List.length l0) : Int) ≤
    (9223372036854775807 : Int)) ∧ (n1 - (↑(List.length l0) : Int) < 0 → -1 = if n1 - szE l0 < 0 then -1 else n1 - szE l0) ∧ (¬n1 - (↑(List.length l0) : Int) < 0 → ∃ (I2 : Int → Int → Prop), ∃ (m3 : Int → Int → Nat), I2 (n1 - (↑(List.length l0) : Int))
    0 ∧ ∀ (n4 n5 : Int), I2 n4 n5 → (n5 < (↑(List.length l0) : Int) → 0 ≤ n5 ∧ n5 < (↑(List.length l0) : Int) ∧ ((↑(List.length (Prod.snd (List.getD l0 (Int.toNat n5) (0, [])))) : Int) ≤ (9223372036854775807 : Int) ∧ 0 ≤ n4 ∧ n4 ≤ 1000000000000000000) ∧
    ∀ (n6 : Int), (n6 = if n4 - (↑(List.length (Prod.snd (List.getD l0 (Int.toNat n5) (0, [])))) : Int) < 0 then -1 else n4 - (↑(List.length (Prod.snd (List.getD l0 (Int.toNat n5) (0, [])))) : Int)) → (n6 < 0 → -1 = if n1 - szE l0 < 0 then -1
    else n1 - szE l0) ∧ (¬n6 < 0 → (-9223372036854775808 ≤ n5 + 1 ∧ n5 + (1 : Int) ≤ (9223372036854775807 : Int)) ∧ I2 n6 (n5 + 1) ∧ m3 n6 (n5 + 1) < m3 n4 n5)) ∧ (¬n5 < (↑(List.length l0) : Int) → n4 = if n1 - szE l0 < 0 then -1 else n1 - szE l0))
theorem v_l_szEntryS : V_l_szEntryS := by
  unfold V_l_szEntryS
  rintro l n0 ⟨⟨hz, he⟩, h0, h1⟩
  have hs := sumIn_nonneg l
  unfold szE
  refine ⟨by omega, fun h => ?_, fun h => ?_⟩
  · rw [if_pos (by omega)]
  · refine ⟨fun n i => 0 ≤ i ∧ i ≤ l.length ∧ 0 ≤ n ∧ n ≤ n0 ∧ n - sumIn (l.drop i.toNat) = n0 - l.length - sumIn l, fun n i => (l.length - i).toNat, ?_, ?_⟩ <;> dsimp only
    · simp; omega
    rintro n i ⟨i0, i1, n1, n2, hI⟩
    refine ⟨fun hlt => ?_, fun hge => ?_⟩
    · rw [sumIn_step i0 hlt] at hI
      have hel := ent_Ez he i0 hlt
      have hs' := sumIn_nonneg (l.drop (i + 1).toNat)
      refine ⟨i0, hlt, ⟨by omega, by omega, by omega⟩, ?_⟩
      rintro m rfl
      refine ⟨fun hm => ?_, fun hm => ?_⟩
      · rw [if_pos (by split at hm <;> omega)]
      · rw [if_neg (by split at hm <;> omega)]
        exact ⟨by omega, ⟨by omega, by omega, by split at hm <;> omega, by omega, by omega⟩, by omega⟩
    · rw [sumIn_end hge] at hI
      rw [if_neg (by omega)]; omega
def V_l_eqEntry : Prop :=
  ∀ (n0 : Int) (l1 : List Int) (n2 : Int) (l3 : List Int), (↑(List.length l1) : Int) ≤ 1099511627776 ∧ (↑(List.length l3) : Int) ≤ 1099511627776 → (n0 ≠ n2 → false = decide ((n0, l1) = (n2, l3))) ∧ (¬n0 ≠ n2 → ((↑(List.length l1) : Int) ≤
    1099511627776 ∧ (↑(List.length l3) : Int) ≤ 1099511627776) ∧ (true = decide (l1 = l3) → true = decide ((n0, l1) = (n2, l3))) ∧ (false = decide (l1 = l3) → false = decide ((n0, l1) = (n2, l3))))
theorem v_l_eqEntry : V_l_eqEntry := by
  unfold V_l_eqEntry
  rintro n l n2 l2 ⟨h1, h2⟩
  simp only [Prod.mk.injEq]
  grind
def V_l_eqEntryS : Prop :=
  ∀ (l0 l1 : List (Int × List Int)), szE l0 ≤ 2000000 ∧ szE l1 ≤ 2000000 → ((↑(List.length l0) : Int) ≠ (↑(List.length l1) : Int) → false = decide (l0 = l1)) ∧ (¬(↑(List.length l0) : Int) ≠ (↑(List.length l1) : Int) → ∃ (I2 : Int → Prop), ∃
    (m3 : Int → Nat), I2 0 ∧ ∀ (n4 : Int), I2 n4 → (n4 < (↑(List.length l0) : Int) → 0 ≤ n4 ∧ n4 < (↑(List.length l0) : Int) ∧ 0 ≤ n4 ∧ n4 < (↑(List.length l1) : Int) ∧ (∃ (b : Bool), b = decide ((Prod.fst (List.getD l0 (Int.toNat n4) (0, [])),
    Prod.snd (List.getD l0 (Int.toNat n4) (0, []))) = (Prod.fst (List.getD l1 (Int.toNat n4) (0, [])), Prod.snd (List.getD l1 (Int.toNat n4) (0, []))))) ∧ ((↑(List.length (Prod.snd (List.getD l0 (Int.toNat n4) (0, [])))) : Int) ≤ 1099511627776 ∧
    (↑(List.length (Prod.snd (List.getD l1 (Int.toNat n4) (0, [])))) : Int) ≤ 1099511627776) ∧ (true = decide ((Prod.fst (List.getD l0 (Int.toNat n4) (0, [])), Prod.snd (List.getD l0 (Int.toNat n4) (0, []))) = (Prod.fst (List.getD l1 (Int.toNat
    n4) (0, [])), Prod.snd (List.getD l1 (Int.toNat n4) (0, [])))) → (-9223372036854775808 ≤ n4 + 1 ∧ n4 + (1 : Int) ≤ (9223372036854775807 : Int)) ∧ I2 (n4 + 1) ∧ m3 (n4 + 1) < m3 n4) ∧ (false = decide ((Prod.fst (List.getD l0 (Int.toNat n4) (0, [])), Prod.snd
    (List.getD l0 (Int.toNat n4) (0, []))) = (Prod.fst (List.getD l1 (Int.toNat n4) (0, [])), Prod.snd (List.getD l1 (Int.toNat n4) (0, [])))) → false = decide (l0 = l1))) ∧ (¬n4 < (↑(List.length l0) : Int) → true = decide (l0 = l1)))
theorem v_l_eqEntryS : V_l_eqEntryS := by
  unfold V_l_eqEntryS
  rintro a b ⟨ha, hb⟩
  have hsa := sumIn_nonneg a
  have hsb := sumIn_nonneg b
  have hla : (a.length : Int) ≤ 2000000 := by unfold szE at ha; omega
  refine ⟨fun h => ?_, fun h => ?_⟩
  · have : a ≠ b := fun e => h (by rw [e])
    simp [this]
  refine ⟨fun i => 0 ≤ i ∧ i ≤ a.length ∧ (a.drop i.toNat = b.drop i.toNat ↔ a = b), fun i => (a.length - i).toNat, ?_, ?_⟩ <;> dsimp only
  · simp
  rintro i ⟨h0, h1, h2⟩
  refine ⟨fun hlt => ?_, fun hge => ?_⟩
  · have e1 := ent_len h0 hlt
    have e2 := ent_len (l := b) h0 (by omega)
    rw [drop_lt (0, []) h0 hlt, drop_lt (0, []) h0 (show i < (b.length : Int) by omega), List.cons.injEq] at h2
    refine ⟨h0, hlt, h0, by omega, ⟨_, rfl⟩, ⟨by omega, by omega⟩, fun h => ?_, fun h => ?_⟩
    · simp only [true_eq_decide_iff] at h
      exact ⟨by omega, ⟨by omega, by omega, by rw [← h2]; exact ⟨fun q => ⟨h, q⟩, fun q => q.2⟩⟩, by omega⟩
    · simp only [false_eq_decide_iff] at h
      have : ¬ a = b := fun e => h (h2.2 e).1
      simp [this]
  · rw [drop_ge hge, drop_ge (show ¬ i < (b.length : Int) by omega)] at h2
    simp [← h2]
def V_i_EntriesValid : Prop :=
  ∀ (l0 : List (Int × List Int)), szE l0 ≤ 2000000 → ∃ (I1 : Int → Prop), ∃ (m2 : Int → Nat), I1 0 ∧ ∀ (n3 : Int), I1 n3 → (n3 < (↑(List.length l0) : Int) → 0 ≤ n3 ∧ n3 < (↑(List.length l0) : Int) ∧ (∃ (b : Bool), b = decide (1 ≤ Prod.fst
    (List.getD l0 (Int.toNat n3) (0, [])) ∧ Prod.fst (List.getD l0 (Int.toNat n3) (0, [])) ≤ 20)) ∧ True ∧ (true = decide (1 ≤ Prod.fst (List.getD l0 (Int.toNat n3) (0, [])) ∧ Prod.fst (List.getD l0 (Int.toNat n3) (0, [])) ≤ 20) → (∃ (b : Bool),
    b = LV (Prod.snd (List.getD l0 (Int.toNat n3) (0, [])))) ∧ (↑(List.length (Prod.snd (List.getD l0 (Int.toNat n3) (0, [])))) : Int) ≤ 1099511627776 ∧ (true = LV (Prod.snd (List.getD l0 (Int.toNat n3) (0, []))) → (0 < n3 →
    (-9223372036854775808 ≤ n3 - 1 ∧ n3 - (1 : Int) ≤ (9223372036854775807 : Int)) ∧ 0 ≤ n3 - 1 ∧ n3 - 1 < (↑(List.length l0) : Int) ∧ (Prod.fst (List.getD l0 (Int.toNat n3) (0, [])) ≤ Prod.fst (List.getD l0 (Int.toNat (n3 - 1)) (0, [])) → false = entOk l0) ∧
    (¬Prod.fst (List.getD l0 (Int.toNat n3) (0, [])) ≤ Prod.fst (List.getD l0 (Int.toNat (n3 - 1)) (0, [])) → (-9223372036854775808 ≤ n3 + 1 ∧ n3 + (1 : Int) ≤ (9223372036854775807 : Int)) ∧ I1 (n3 + 1) ∧ m2 (n3 + 1) < m2 n3)) ∧ (¬0 < n3 → (-9223372036854775808
    ≤ n3 + 1 ∧ n3 + (1 : Int) ≤ (9223372036854775807 : Int)) ∧ I1 (n3 + 1) ∧ m2 (n3 + 1) < m2 n3)) ∧ (false = LV (Prod.snd (List.getD l0 (Int.toNat n3) (0, []))) → false = entOk l0)) ∧ (false = decide (1 ≤ Prod.fst (List.getD l0 (Int.toNat n3) (0, [])) ∧
    Prod.fst (List.getD l0 (Int.toNat n3) (0, [])) ≤ 20) → false = entOk l0)) ∧ (¬n3 < (↑(List.length l0) : Int) → ((↑(List.length l0) : Int) ≤ 5 → true = entOk l0) ∧ (¬(↑(List.length l0) : Int) ≤ 5 → false = entOk l0))
theorem v_i_EntriesValid : V_i_EntriesValid := by
  unfold V_i_EntriesValid
  intro l hs
  have hsz := sumIn_nonneg l
  have hz : (l.length : Int) ≤ 2000000 := by unfold szE at hs; omega
  have hno : entFrom none l = false → false = entOk l := fun h => by unfold entOk; rw [h]; rfl
  refine ⟨fun i => 0 ≤ i ∧ i ≤ l.length ∧ entFrom (prevOf l i) (l.drop i.toNat) = entFrom none l, fun i => (l.length - i).toNat, ?_, ?_⟩ <;> dsimp only
  · simp [prevOf]
  rintro i ⟨h0, h1, hI⟩
  refine ⟨fun hlt => ?_, fun hge => ?_⟩
  · have hel := ent_len h0 hlt
    rw [ent_step h0 hlt] at hI
    generalize entFrom (prevOf l (i + 1)) (l.drop (i + 1).toNat) = F at *
    generalize l.getD i.toNat (0, []) = x at *
    generalize l.getD (i - 1).toNat (0, []) = y at *
    refine ⟨h0, hlt, ⟨_, rfl⟩, trivial, fun h => ⟨⟨_, rfl⟩, by omega, fun hv => ⟨fun hi => ⟨by omega, by omega, by omega, fun hn => hno ?_, fun hn => ?_⟩, fun hi => ?_⟩, fun hv => hno ?_⟩, fun h => hno ?_⟩
    · rw [← hI, if_pos hi, decide_eq_false (by omega : ¬ y.1 < x.1)]; simp
    · rw [if_pos hi, decide_eq_true (by omega : y.1 < x.1), ← hv, ← h] at hI
      exact ⟨by omega, ⟨by omega, by omega, by simpa using hI⟩, by omega⟩
    · rw [if_neg hi, ← hv, ← h] at hI
      exact ⟨by omega, ⟨by omega, by omega, by simpa using hI⟩, by omega⟩
    · rw [← hI, ← hv]; simp
    · rw [← hI, ← h]; simp
  · rw [ent_end hge] at hI
    unfold entOk
    rw [← hI]
    exact ⟨fun h => by simp; omega, fun h => by simp; omega⟩
def V_s_EntriesValid : Prop :=
  ∀ (l0 : List (Int × List Int)), szE l0 ≤ 2000000 → ∃ (I1 : Int → Prop), ∃ (m2 : Int → Nat), I1 0 ∧ ∀ (n3 : Int), I1 n3 → (n3 < (↑(List.length l0) : Int) → 0 ≤ n3 ∧ n3 < (↑(List.length l0) : Int) ∧ (∃ (b : Bool), b = decide (1 ≤ Prod.fst
    (List.getD l0 (Int.toNat n3) (0, [])) ∧ Prod.fst (List.getD l0 (Int.toNat n3) (0, [])) ≤ 20)) ∧ True ∧ (true = decide (1 ≤ Prod.fst (List.getD l0 (Int.toNat n3) (0, [])) ∧ Prod.fst (List.getD l0 (Int.toNat n3) (0, [])) ≤ 20) → 0 ≤ n3 ∧ n3 <
    (↑(List.length l0) : Int) ∧ (∃ (b : Bool), b = LV (Prod.snd (List.getD l0 (Int.toNat n3) (0, [])))) ∧ (↑(List.length (Prod.snd (List.getD l0 (Int.toNat n3) (0, [])))) : Int) ≤ 1099511627776 ∧ (true = LV (Prod.snd (List.getD l0 (Int.toNat n3)
    (0, []))) → (0 < n3 → (-9223372036854775808 ≤ n3 - 1 ∧ n3 - (1 : Int) ≤ (9223372036854775807 : Int)) ∧ 0 ≤ n3 - 1 ∧ n3 - 1 < (↑(List.length l0) : Int) ∧ 0 ≤ n3 ∧ n3 < (↑(List.length l0) : Int) ∧ (Prod.fst (List.getD l0 (Int.toNat n3) (0, [])) ≤ Prod.fst
    (List.getD l0 (Int.toNat (n3 - 1)) (0, [])) → false = entOk l0) ∧ (¬Prod.fst (List.getD l0 (Int.toNat n3) (0, [])) ≤ Prod.fst (List.getD l0 (Int.toNat (n3 - 1)) (0, [])) → (-9223372036854775808 ≤ n3 + 1 ∧ n3 + (1 : Int) ≤ (9223372036854775807 : Int)) ∧ I1
    (n3 + 1) ∧ m2 (n3 + 1) < m2 n3)) ∧ (¬0 < n3 → (-9223372036854775808 ≤ n3 + 1 ∧ n3 + (1 : Int) ≤ (9223372036854775807 : Int)) ∧ I1 (n3 + 1) ∧ m2 (n3 + 1) < m2 n3)) ∧ (false = LV (Prod.snd (List.getD l0 (Int.toNat n3) (0, []))) → false = entOk l0)) ∧ (false =
    decide (1 ≤ Prod.fst (List.getD l0 (Int.toNat n3) (0, [])) ∧ Prod.fst (List.getD l0 (Int.toNat n3) (0, [])) ≤ 20) → false = entOk l0)) ∧ (¬n3 < (↑(List.length l0) : Int) → ((↑(List.length l0) : Int) ≤ 5 → true = entOk l0) ∧ (¬(↑(List.length
    l0) : Int) ≤ 5 → false = entOk l0))
theorem v_s_EntriesValid : V_s_EntriesValid := by
  unfold V_s_EntriesValid
  intro l hs
  have hsz := sumIn_nonneg l
  have hz : (l.length : Int) ≤ 2000000 := by unfold szE at hs; omega
  have hno : entFrom none l = false → false = entOk l := fun h => by unfold entOk; rw [h]; rfl
  refine ⟨fun i => 0 ≤ i ∧ i ≤ l.length ∧ entFrom (prevOf l i) (l.drop i.toNat) = entFrom none l, fun i => (l.length - i).toNat, ?_, ?_⟩ <;> dsimp only
  · simp [prevOf]
  rintro i ⟨h0, h1, hI⟩
  refine ⟨fun hlt => ?_, fun hge => ?_⟩
  · have hel := ent_len h0 hlt
    rw [ent_step h0 hlt] at hI
    generalize entFrom (prevOf l (i + 1)) (l.drop (i + 1).toNat) = F at *
    generalize l.getD i.toNat (0, []) = x at *
    generalize l.getD (i - 1).toNat (0, []) = y at *
    refine ⟨h0, hlt, ⟨_, rfl⟩, trivial, fun h => ⟨h0, hlt, ⟨_, rfl⟩, by omega, fun hv => ⟨fun hi => ⟨by omega, by omega, by omega, h0, hlt, fun hn => hno ?_, fun hn => ?_⟩, fun hi => ?_⟩, fun hv => hno ?_⟩, fun h => hno ?_⟩
    · rw [← hI, if_pos hi, decide_eq_false (by omega : ¬ y.1 < x.1)]; simp
    · rw [if_pos hi, decide_eq_true (by omega : y.1 < x.1), ← hv, ← h] at hI
      exact ⟨by omega, ⟨by omega, by omega, by simpa using hI⟩, by omega⟩
    · rw [if_neg hi, ← hv, ← h] at hI
      exact ⟨by omega, ⟨by omega, by omega, by simpa using hI⟩, by omega⟩
    · rw [← hI, ← hv]; simp
    · rw [← hI, ← h]; simp
  · rw [ent_end hge] at hI
    unfold entOk
    rw [← hI]
    exact ⟨fun h => by simp; omega, fun h => by simp; omega⟩
def V_s_l92Entries : Prop :=
  ∀ (l0 : List UInt8) (n1 : Int), (↑(List.length l0) : Int) ≤ 1099511627776 ∧ 0 ≤ n1 ∧ n1 ≤ 500000000 → ((↑(List.length l0) : Int) ≤ 1099511627776 ∧ 0 ≤ n1 ∧ n1 ≤ 1000000000) ∧ ∀ (l2 : List UInt8) (n3 n4 : Int), l0 = l2 ∧ n3 = n1 + 1 ∧ 0 ≤ n4
    ∧ ((1 : Int) ≤ 5 → n4 < 5) → ((↑(List.length l2) : Int) ≤ 1099511627776 ∧ 0 ≤ n3 ∧ n3 ≤ 1000000000) ∧ ∀ (l5 : List UInt8) (n6 n7 : Int), l2 = l5 ∧ n6 = n3 + 1 ∧ 0 ≤ n7 ∧ ((1 : Int) ≤ 16 → n7 < 16) → (n7 = 0 → ((↑(List.length l5) : Int) ≤ 1099511627776 ∧ 0 ≤
    n6 ∧ n6 ≤ 1000000000) ∧ ∀ (l8 : List UInt8) (n9 n10 : Int), l5 = l8 ∧ n9 = n6 + 1 ∧ 0 ≤ n10 ∧ ((1 : Int) ≤ 2 → n10 < 2) → ((-9223372036854775808 : Int) ≤ 5 + n10 ∧ 5 + n10 ≤ (9223372036854775807 : Int)) ∧ ((↑(List.length l8) : Int) ≤ 1099511627776 ∧ 0 ≤ n9 ∧ n9 ≤
    1000000000) ∧ ∀ (l11 : List UInt8) (n12 n13 : Int), l8 = l11 ∧ n12 = n9 + 1 ∧ 0 ≤ n13 ∧ ((1 : Int) ≤ 3 → n13 < 3) → ((-9223372036854775808 : Int) ≤ 1 + n13 ∧ 1 + n13 ≤ (9223372036854775807 : Int)) ∧ ∃ (I14 : List (Int × List Int) → Int → Int → List UInt8 → Int →
    Prop), ∃ (m15 : List (Int × List Int) → Int → Int → List UInt8 → Int → Nat), I14 [] (1 + n13) 0 l11 n12 ∧ ∀ (l16 : List (Int × List Int)) (n17 n18 : Int) (l19 : List UInt8) (n20 : Int), I14 l16 n17 n18 l19 n20 → (n18 < 5 + n10 →
    ((↑(List.length l19) : Int) ≤ 1099511627776 ∧ 0 ≤ n20 ∧ n20 ≤ 900000000) ∧ ∀ (l21 : List UInt8) (n22 : Int) (l23 : List Int), l19 = l21 ∧ n20 ≤ n22 ∧ n22 ≤ n20 + 10000 ∧ (↑(List.length l23) : Int) ≤ 400 → (↑(List.length l23) : Int) ≤
    1099511627776 ∧ (true = LV l23 → (↑(List.length l16 + List.length [(n17, l23)]) : Int) ≤ 1099511627776 ∧ (-9223372036854775808 ≤ n17 + 1 ∧ n17 + (1 : Int) ≤ (9223372036854775807 : Int)) ∧ ((↑(List.length l21) : Int) ≤ 1099511627776 ∧ 0 ≤ n22 ∧ n22 ≤
    1000000000) ∧ ∀ (l24 : List UInt8) (n25 n26 : Int), l21 = l24 ∧ n25 = n22 + 1 ∧ 0 ≤ n26 ∧ ((1 : Int) ≤ 3 → n26 < 3) → (-9223372036854775808 ≤ n17 + 1 + n26 ∧ n17 + 1 + n26 ≤ (9223372036854775807 : Int)) ∧ (-9223372036854775808 ≤ n18 + 1 ∧ n18 + (1 : Int) ≤ (9223372036854775807 : Int)) ∧ I14 (l16 ++ [(n17, l23)]) (n17 + 1 + n26) (n18 + 1) l24 n25 ∧ m15 (l16 ++ [(n17, l23)]) (n17 + 1 + n26) (n18 + 1) l24 n25 < m15 l16 n17 n18 l19 n20) ∧ (false = LV l23 → ((↑(List.length l21) : Int) ≤ 1099511627776 ∧ 0 ≤
    n22 ∧ n22 ≤ 1000000000) ∧ ∀ (l27 : List UInt8) (n28 n29 : Int), l21 = l27 ∧ n28 = n22 + 1 ∧ 0 ≤ n29 ∧ ((1 : Int) ≤ 6 → n29 < 6) → (n29 = 0 → (↑(List.length l16 + List.length [(n17, l23)]) : Int) ≤ 1099511627776 ∧ (-9223372036854775808 ≤ n17 + 1 ∧
    n17 + (1 : Int) ≤ (9223372036854775807 : Int)) ∧ ((↑(List.length l27) : Int) ≤ 1099511627776 ∧ 0 ≤ n28 ∧ n28 ≤ 1000000000) ∧ ∀ (l30 : List UInt8) (n31 n32 : Int), l27 = l30 ∧ n31 = n28 + 1 ∧ 0 ≤ n32 ∧ ((1 : Int) ≤ 3 → n32 < 3) → (-9223372036854775808 ≤ n17 + 1 +
    n32 ∧ n17 + 1 + n32 ≤ (9223372036854775807 : Int)) ∧ (-9223372036854775808 ≤ n18 + 1 ∧ n18 + (1 : Int) ≤ (9223372036854775807 : Int)) ∧ I14 (l16 ++ [(n17, l23)]) (n17 + 1 + n32) (n18 + 1) l30 n31 ∧ m15 (l16 ++ [(n17, l23)]) (n17 + 1 + n32) (n18 + 1) l30 n31 < m15
    l16 n17 n18 l19 n20) ∧ (¬n29 = 0 → (-9223372036854775808 ≤ n17 + 1 ∧ n17 + (1 : Int) ≤ (9223372036854775807 : Int)) ∧ ((↑(List.length l27) : Int) ≤ 1099511627776 ∧ 0 ≤ n28 ∧ n28 ≤ 1000000000) ∧ ∀ (l33 : List UInt8) (n34 n35 : Int), l27 = l33 ∧ n34 = n28 + 1
    ∧ 0 ≤ n35 ∧ ((1 : Int) ≤ 3 → n35 < 3) → (-9223372036854775808 ≤ n17 + 1 + n35 ∧ n17 + 1 + n35 ≤ (9223372036854775807 : Int)) ∧ (-9223372036854775808 ≤ n18 + 1 ∧ n18 + (1 : Int) ≤ (9223372036854775807 : Int)) ∧ I14 l16 (n17 + 1 + n35) (n18 + 1) l33 n34 ∧ m15 l16 (n17 + 1 +
    n35) (n18 + 1) l33 n34 < m15 l16 n17 n18 l19 n20))) ∧ (¬n18 < 5 + n10 → (0 < (↑(List.length l16) : Int) → ((↑(List.length l19) : Int) ≤ 1099511627776 ∧ 0 ≤ n20 ∧ n20 ≤ 1000000000) ∧ ∀ (l36 : List UInt8) (n37 n38 : Int), l19 = l36 ∧ n37 = n20
    + 1 ∧ 0 ≤ n38 ∧ ((1 : Int) ≤ 24 → n38 < 24) → (n38 = 0 → ((↑(List.length l36) : Int) ≤ 1099511627776 ∧ 0 ≤ n37 ∧ n37 ≤ 1000000000) ∧ ∀ (l39 : List UInt8) (n40 n41 : Int), l36 = l39 ∧ n40 = n37 + 1 ∧ 0 ≤ n41 ∧ (1 ≤ (↑(List.length l16) : Int) → n41 <
    (↑(List.length l16) : Int)) → ((↑(List.length l39) : Int) ≤ 1099511627776 ∧ 0 ≤ n40 ∧ n40 ≤ 1000000000) ∧ ∀ (l42 : List UInt8) (n43 n44 : Int), l39 = l42 ∧ n43 = n40 + 1 ∧ 0 ≤ n44 ∧ ((1 : Int) ≤ 4 → n44 < 4) → 0 ≤ n44 ∧ n44 < (↑(List.length [0, 20,
    21, 1]) : Int) ∧ Int.toNat n44 < List.length [0, 20, 21, 1] ∧ 0 ≤ n41 ∧ n41 < (↑(List.length l16) : Int) ∧ Int.toNat n41 < List.length l16 ∧ l0 = l42 ∧ n1 ≤ n43 ∧ n43 ≤ n1 + 110000 ∧ (↑(List.length (List.set l16 (Int.toNat n41) (List.getD
    [0, 20, 21, 1] (Int.toNat n44) 0, Prod.snd (List.getD l16 (Int.toNat n41) (0, []))))) : Int) ≤ 7 ∧ szE (List.set l16 (Int.toNat n41) (List.getD [0, 20, 21, 1] (Int.toNat n44) 0, Prod.snd (List.getD l16 (Int.toNat n41) (0, [])))) ≤ 5000) ∧
    (¬n38 = 0 → l0 = l36 ∧ n1 ≤ n37 ∧ n37 ≤ n1 + 110000 ∧ (↑(List.length l16) : Int) ≤ 7 ∧ szE l16 ≤ 5000)) ∧ (¬0 < (↑(List.length l16) : Int) → l0 = l19 ∧ n1 ≤ n20 ∧ n20 ≤ n1 + 110000 ∧ (↑(List.length l16) : Int) ≤ 7 ∧ szE l16 ≤ 5000))) ∧ (¬n7
    = 0 → ((↑(List.length l5) : Int) ≤ 1099511627776 ∧ 0 ≤ n6 ∧ n6 ≤ 1000000000) ∧ ∀ (l45 : List UInt8) (n46 n47 : Int), l5 = l45 ∧ n46 = n6 + 1 ∧ 0 ≤ n47 ∧ ((1 : Int) ≤ 3 → n47 < 3) → ((-9223372036854775808 : Int) ≤ 1 + n47 ∧ 1 + n47 ≤ (9223372036854775807 : Int)) ∧ ∃
    (I48 : List (Int × List Int) → Int → Int → List UInt8 → Int → Prop), ∃ (m49 : List (Int × List Int) → Int → Int → List UInt8 → Int → Nat), I48 [] (1 + n47) 0 l45 n46 ∧ ∀ (l50 : List (Int × List Int)) (n51 n52 : Int) (l53 : List UInt8) (n54 :
    Int), I48 l50 n51 n52 l53 n54 → (n52 < n4 → ((↑(List.length l53) : Int) ≤ 1099511627776 ∧ 0 ≤ n54 ∧ n54 ≤ 900000000) ∧ ∀ (l55 : List UInt8) (n56 : Int) (l57 : List Int), l53 = l55 ∧ n54 ≤ n56 ∧ n56 ≤ n54 + 10000 ∧ (↑(List.length l57) : Int)
    ≤ 400 → (↑(List.length l57) : Int) ≤ 1099511627776 ∧ (true = LV l57 → (↑(List.length l50 + List.length [(n51, l57)]) : Int) ≤ 1099511627776 ∧ (-9223372036854775808 ≤ n51 + 1 ∧ n51 + (1 : Int) ≤ (9223372036854775807 : Int)) ∧ ((↑(List.length l55) : Int) ≤
    1099511627776 ∧ 0 ≤ n56 ∧ n56 ≤ 1000000000) ∧ ∀ (l58 : List UInt8) (n59 n60 : Int), l55 = l58 ∧ n59 = n56 + 1 ∧ 0 ≤ n60 ∧ ((1 : Int) ≤ 3 → n60 < 3) → (-9223372036854775808 ≤ n51 + 1 + n60 ∧ n51 + 1 + n60 ≤ (9223372036854775807 : Int)) ∧
    (-9223372036854775808 ≤ n52 + 1 ∧ n52 + (1 : Int) ≤ (9223372036854775807 : Int)) ∧ I48 (l50 ++ [(n51, l57)]) (n51 + 1 + n60) (n52 + 1) l58 n59 ∧ m49 (l50 ++ [(n51, l57)]) (n51 + 1 + n60) (n52 + 1) l58 n59 < m49 l50 n51 n52 l53 n54) ∧ (false = LV l57 →
    ((↑(List.length l55) : Int) ≤ 1099511627776 ∧ 0 ≤ n56 ∧ n56 ≤ 1000000000) ∧ ∀ (l61 : List UInt8) (n62 n63 : Int), l55 = l61 ∧ n62 = n56 + 1 ∧ 0 ≤ n63 ∧ ((1 : Int) ≤ 6 → n63 < 6) → (n63 = 0 → (↑(List.length l50 + List.length [(n51, l57)]) : Int) ≤
    1099511627776 ∧ (-9223372036854775808 ≤ n51 + 1 ∧ n51 + (1 : Int) ≤ (9223372036854775807 : Int)) ∧ ((↑(List.length l61) : Int) ≤ 1099511627776 ∧ 0 ≤ n62 ∧ n62 ≤ 1000000000) ∧ ∀ (l64 : List UInt8) (n65 n66 : Int), l61 = l64 ∧ n65 = n62 + 1 ∧ 0 ≤ n66 ∧ ((1 : Int) ≤ 3
    → n66 < 3) → (-9223372036854775808 ≤ n51 + 1 + n66 ∧ n51 + 1 + n66 ≤ (9223372036854775807 : Int)) ∧ (-9223372036854775808 ≤ n52 + 1 ∧ n52 + (1 : Int) ≤ (9223372036854775807 : Int)) ∧ I48 (l50 ++ [(n51, l57)]) (n51 + 1 + n66) (n52 + 1) l64 n65 ∧ m49 (l50 ++ [(n51,
    l57)]) (n51 + 1 + n66) (n52 + 1) l64 n65 < m49 l50 n51 n52 l53 n54) ∧ (¬n63 = 0 → (-9223372036854775808 ≤ n51 + 1 ∧ n51 + (1 : Int) ≤ (9223372036854775807 : Int)) ∧ ((↑(List.length l61) : Int) ≤ 1099511627776 ∧ 0 ≤ n62 ∧ n62 ≤ 1000000000) ∧ ∀ (l67 : List
    UInt8) (n68 n69 : Int), l61 = l67 ∧ n68 = n62 + 1 ∧ 0 ≤ n69 ∧ ((1 : Int) ≤ 3 → n69 < 3) → (-9223372036854775808 ≤ n51 + 1 + n69 ∧ n51 + 1 + n69 ≤ (9223372036854775807 : Int)) ∧ (-9223372036854775808 ≤ n52 + 1 ∧ n52 + (1 : Int) ≤ (9223372036854775807 : Int)) ∧ I48 l50 (n51
    + 1 + n69) (n52 + 1) l67 n68 ∧ m49 l50 (n51 + 1 + n69) (n52 + 1) l67 n68 < m49 l50 n51 n52 l53 n54))) ∧ (¬n52 < n4 → (0 < (↑(List.length l50) : Int) → ((↑(List.length l53) : Int) ≤ 1099511627776 ∧ 0 ≤ n54 ∧ n54 ≤ 1000000000) ∧ ∀ (l70 : List
    UInt8) (n71 n72 : Int), l53 = l70 ∧ n71 = n54 + 1 ∧ 0 ≤ n72 ∧ ((1 : Int) ≤ 24 → n72 < 24) → (n72 = 0 → ((↑(List.length l70) : Int) ≤ 1099511627776 ∧ 0 ≤ n71 ∧ n71 ≤ 1000000000) ∧ ∀ (l73 : List UInt8) (n74 n75 : Int), l70 = l73 ∧ n74 = n71 + 1 ∧ 0 ≤
    n75 ∧ (1 ≤ (↑(List.length l50) : Int) → n75 < (↑(List.length l50) : Int)) → ((↑(List.length l73) : Int) ≤ 1099511627776 ∧ 0 ≤ n74 ∧ n74 ≤ 1000000000) ∧ ∀ (l76 : List UInt8) (n77 n78 : Int), l73 = l76 ∧ n77 = n74 + 1 ∧ 0 ≤ n78 ∧ ((1 : Int) ≤ 4 → n78
    < 4) → 0 ≤ n78 ∧ n78 < (↑(List.length [0, 20, 21, 1]) : Int) ∧ Int.toNat n78 < List.length [0, 20, 21, 1] ∧ 0 ≤ n75 ∧ n75 < (↑(List.length l50) : Int) ∧ Int.toNat n75 < List.length l50 ∧ l0 = l76 ∧ n1 ≤ n77 ∧ n77 ≤ n1 + 110000 ∧
    (↑(List.length (List.set l50 (Int.toNat n75) (List.getD [0, 20, 21, 1] (Int.toNat n78) 0, Prod.snd (List.getD l50 (Int.toNat n75) (0, []))))) : Int) ≤ 7 ∧ szE (List.set l50 (Int.toNat n75) (List.getD [0, 20, 21, 1] (Int.toNat n78) 0,
    Prod.snd (List.getD l50 (Int.toNat n75) (0, [])))) ≤ 5000) ∧ (¬n72 = 0 → l0 = l70 ∧ n1 ≤ n71 ∧ n71 ≤ n1 + 110000 ∧ (↑(List.length l50) : Int) ≤ 7 ∧ szE l50 ≤ 5000)) ∧ (¬0 < (↑(List.length l50) : Int) → l0 = l53 ∧ n1 ≤ n54 ∧ n54 ≤ n1 + 110000
    ∧ (↑(List.length l50) : Int) ≤ 7 ∧ szE l50 ≤ 5000)))
theorem v_s_l92Entries : V_s_l92Entries := by
  unfold V_s_l92Entries
  rintro b p ⟨hz, h0, h1⟩
  have hS := szE_snoc
  have hT := szE_set
  have hE : szE [] = 0 := rfl
  repeat' (first | apply And.intro | (rintro _ _ _ ⟨rfl, rfl, _, _⟩) | (rintro _ _ _ ⟨rfl, _, _, _⟩) | (rintro _ _ _ _ ⟨rfl, _, _, _⟩) | (rintro _ _ ⟨rfl, _⟩) | intro _)
  all_goals try (first | omega | with_reducible rfl | with_reducible assumption | (simp only [List.length_append, List.length_take, List.length_drop, List.length_set, List.length_cons, List.length_nil, List.length_replicate, Int.toNat_natCast] <;> omega) | (simp <;> omega))
  all_goals
    refine ⟨fun o name i b' p' => b = b' ∧ 0 ≤ i ∧ i ≤ 6 ∧ 1 ≤ name ∧ name ≤ 4 + 4 * i ∧ p ≤ p' ∧ p' ≤ p + 10 + 10003 * i ∧ (o.length : Int) ≤ i ∧ szE o ≤ 401 * i, fun o name i b' p' => (6 - i).toNat, ?_, ?_⟩ <;> dsimp only
    · simp; omega
    rintro o name i b' p' ⟨rfl, hi0, hi1, hn0, hn1, hp0, hp1, hl, hs⟩
    have hS' := hS o
    have hT' := hT o
    clear hS hT
    repeat' (first | apply And.intro | (rintro _ _ _ ⟨rfl, rfl, _, _⟩) | (rintro _ _ _ ⟨rfl, _, _, _⟩) | (rintro _ _ _ _ ⟨rfl, _, _, _⟩) | (rintro _ _ ⟨rfl, _⟩) | intro _)
    all_goals (first | omega | exact Eq.refl _ | (simp only [hS', hT', List.length_set, List.length_append, List.length_singleton]; omega) | (simp; omega) | skip)
def V_s_DrawEntriesValid : Prop :=
  ∀ (l0 : List UInt8), (↑(List.length l0) : Int) ≤ 1099511627776 → (↑(List.length l0) : Int) ≤ 1099511627776 ∧ ∀ (l1 : List UInt8) (n2 : Int), n2 = 0 ∧ (↑(List.length l1) : Int) ≤ 2000 → ((↑(List.length l1) : Int) ≤ 1099511627776 ∧ 0 ≤ n2 ∧ n2
    ≤ 500000000) ∧ ∀ (l3 : List UInt8) (n4 : Int) (l5 : List (Int × List Int)), l1 = l3 ∧ n2 ≤ n4 ∧ n4 ≤ n2 + 110000 ∧ (↑(List.length l5) : Int) ≤ 7 ∧ szE l5 ≤ 5000 → (↑(List.length l5) : Int) ≤ 7 ∧ szE l5 ≤ 5000
theorem v_s_DrawEntriesValid : V_s_DrawEntriesValid := by
  unfold V_s_DrawEntriesValid
  intro l hz
  refine ⟨hz, ?_⟩
  rintro b p ⟨rfl, hb⟩
  refine ⟨by omega, ?_⟩
  rintro b' p' out ⟨rfl, h1, h2, h3, h4⟩
  exact ⟨h3, h4⟩
end Go.Proofs.Ytmfamcaiimhaeaa
