/-
  The conditions of functions, proved: i_entry.
-/
import Derived.Test.YtkkgpcbkkahieaaM
set_option linter.unusedVariables false
set_option linter.unusedSimpArgs false
open Go Go.Ax Go.Mx
namespace Go.Proofs.Ytkkgpcbkkahieaa
def V_l_toEntry : Prop :=
  ∀ (n0 : Int) (l1 : List Int), (l1.length : Int) ≤ 1099511627776 → (l1.length : Int) ≤ 1099511627776 ∧ ∀ (l2 : List Int), l2 = l1 → n0 = n0 ∧ l2 = l1
theorem v_l_toEntry : V_l_toEntry := by
  unfold V_l_toEntry
  repeat' (first | apply And.intro | (rintro _ _ _ ⟨rfl, rfl, _, _⟩) | (rintro _ _ _ ⟨rfl, _, _, _⟩) | (rintro _ _ _ _ ⟨rfl, _, _, _⟩) | (rintro _ _ ⟨rfl, _⟩) | intro _)
  all_goals try (first | omega | with_reducible rfl | with_reducible assumption | (simp only [List.length_append, List.length_take, List.length_drop, List.length_set, List.length_cons, List.length_nil, List.length_replicate, Int.toNat_natCast] <;> omega) | (simp <;> omega))
def V_l_toEntryS : Prop :=
  ∀ (l0 : List (Int × List Int)), szE l0 ≤ 2000000 → (l0.length : Int) = (l0.length : Int) ∧ 0 ≤ (l0.length : Int) ∧ (l0.length : Int) ≤ 1099511627776 ∧ ∃ (I1 : Int → List (Int × List Int) → Prop), ∃ (m2 : Int → List (Int × List Int) → Nat),
 I1 0 (List.replicate (Int.toNat (l0.length : Int)) (0, [])) ∧ ∀ (n3 : Int) (l4 : List (Int × List Int)), I1 n3 l4 → (n3 < (l0.length : Int) → 0 ≤ n3 ∧ n3 < (l0.length : Int) ∧ (↑(List.length (Prod.snd (List.getD l0 (n3.toNat) (0, [])))) :
 Int) ≤ 1099511627776 ∧ ∀ (n5 : Int) (l6 : List Int), n5 = Prod.fst (List.getD l0 (n3.toNat) (0, [])) ∧ l6 = Prod.snd (List.getD l0 (n3.toNat) (0, [])) → 0 ≤ n3 ∧ n3 < (l4.length : Int) ∧ n3.toNat < l4.length ∧ (-9223372036854775808 ≤ n3 + 1
 ∧ n3 + (1 : Int) ≤ (9223372036854775807 : Int)) ∧ I1 (n3 + 1) (List.set l4 (n3.toNat) (n5, l6)) ∧ m2 (n3 + 1) (List.set l4 (n3.toNat) (n5, l6)) < m2 n3 l4) ∧ (¬n3 < (l0.length : Int) → l4 = l0)
theorem v_l_toEntryS : V_l_toEntryS := by
  unfold V_l_toEntryS
  intro l hs
  have hsz := sumIn_nonneg l
  have hz : (l.length : Int) ≤ 2000000 := by unfold szE at hs; omega
  refine ⟨rfl, by omega, by omega, ?_⟩
  refine ⟨fun i o => 0 ≤ i ∧ i ≤ l.length ∧ o = l.take i.toNat ++ List.replicate (l.length - i.toNat) (0, []), fun i o => (l.length - i).toNat, ?_, ?_⟩ <;> dsimp only
  · simp
  rintro i o ⟨h0, h1, rfl⟩
  refine ⟨fun hlt => ?_, fun hge => ?_⟩
  · have ht := len_take h0 h1
    have hel := ent_len h0 hlt
    obtain ⟨n, hn⟩ : ∃ n, l.length - i.toNat = n + 1 := ⟨l.length - i.toNat - 1, by omega⟩
    have hn' : l.length - (i + 1).toNat = n := by omega
    rw [hn, List.replicate_succ, hn', take_lt (0, []) h0 hlt]
    have hlen : (l.take i.toNat ++ (0, []) :: List.replicate n ((0, []) : En)).length = l.length := by simp; omega
    rw [hlen]
    refine ⟨h0, hlt, by omega, ?_⟩
    rintro a b ⟨rfl, rfl⟩
    rw [set_at ht]
    refine ⟨h0, hlt, by omega, by omega, ⟨by omega, by omega, by simp⟩, by omega⟩
  · have : l.length - i.toNat = 0 := by omega
    rw [take_ge hge, this]; simp
def V_l_szIntS : Prop :=
  ∀ (l0 : List Int) (n1 : Int), (l0.length : Int) ≤ (9223372036854775807 : Int) ∧ 0 ≤ n1 ∧ n1 ≤ 1000000000000000000 → (-9223372036854775808 ≤ n1 - (l0.length : Int) ∧ n1 - (l0.length : Int) ≤ (9223372036854775807 : Int)) ∧ (n1 - (l0.length :
 Int) < 0 → -1 = if n1 - (l0.length : Int) < 0 then -1 else n1 - (l0.length : Int)) ∧ (¬n1 - (l0.length : Int) < 0 → n1 - (l0.length : Int) = if n1 - (l0.length : Int) < 0 then -1 else n1 - (l0.length : Int))
theorem v_l_szIntS : V_l_szIntS := by
  unfold V_l_szIntS
  grind
def V_l_szEntry : Prop :=
  ∀ (n0 : Int) (l1 : List Int) (n2 : Int), (l1.length : Int) ≤ (9223372036854775807 : Int) ∧ 0 ≤ n2 ∧ n2 ≤ 1000000000000000000 → ((l1.length : Int) ≤ (9223372036854775807 : Int) ∧ 0 ≤ n2 ∧ n2 ≤ 1000000000000000000) ∧ ∀ (n3 : Int), (n3 = if n2
 - (l1.length : Int) < 0 then -1 else n2 - (l1.length : Int)) → (n3 < 0 → -1 = if n2 - (l1.length : Int) < 0 then -1 else n2 - (l1.length : Int)) ∧ (¬n3 < 0 → n3 = if n2 - (l1.length : Int) < 0 then -1 else n2 - (l1.length : Int))
theorem v_l_szEntry : V_l_szEntry := by
  unfold V_l_szEntry
  grind
def V_l_szEntryS : Prop :=
  ∀ (l0 : List (Int × List Int)) (n1 : Int), ((l0.length : Int) ≤ (9223372036854775807 : Int) ∧ Ez l0) ∧ 0 ≤ n1 ∧ n1 ≤ 1000000000000000000 → (-9223372036854775808 ≤ n1 - (l0.length : Int) ∧ n1 - (l0.length : Int) ≤ (9223372036854775807 : Int))
 ∧ (n1 - (l0.length : Int) < 0 → -1 = if n1 - szE l0 < 0 then -1 else n1 - szE l0) ∧ (¬n1 - (l0.length : Int) < 0 → ∃ (I2 : Int → Int → Prop), ∃ (m3 : Int → Int → Nat), I2 (n1 - (l0.length : Int)) 0 ∧ ∀ (n4 n5 : Int), I2 n4 n5 → (n5 <
 (l0.length : Int) → 0 ≤ n5 ∧ n5 < (l0.length : Int) ∧ ((↑(List.length (Prod.snd (List.getD l0 (n5.toNat) (0, [])))) : Int) ≤ (9223372036854775807 : Int) ∧ 0 ≤ n4 ∧ n4 ≤ 1000000000000000000) ∧ ∀ (n6 : Int), (n6 = if n4 - (↑(List.length
 (Prod.snd (List.getD l0 (n5.toNat) (0, [])))) : Int) < 0 then -1 else n4 - (↑(List.length (Prod.snd (List.getD l0 (n5.toNat) (0, [])))) : Int)) → (n6 < 0 → -1 = if n1 - szE l0 < 0 then -1 else n1 - szE l0) ∧ (¬n6 < 0 → (-9223372036854775808
 ≤ n5 + 1 ∧ n5 + (1 : Int) ≤ (9223372036854775807 : Int)) ∧ I2 n6 (n5 + 1) ∧ m3 n6 (n5 + 1) < m3 n4 n5)) ∧ (¬n5 < (l0.length : Int) → n4 = if n1 - szE l0 < 0 then -1 else n1 - szE l0))
theorem v_l_szEntryS : V_l_szEntryS := by
  unfold V_l_szEntryS
  rintro l n0 ⟨⟨hz, he⟩, h0, h1⟩
  have hs := sumIn_nonneg l
  unfold szE
  refine ⟨by omega, fun h => ?_, fun h => ?_⟩
  · rw [if_pos (by omega)]
  · refine ⟨fun n i => 0 ≤ i ∧ i ≤ l.length ∧ 0 ≤ n ∧ n ≤ n0 ∧ n - sumIn (l.drop i.toNat) = n0 - l.length - sumIn l, fun n i => (l.length - i).toNat, ?_, ?_⟩ <;> dsimp only
    · simp; omega
    rintro n i ⟨i0, i1, n1, n2, hI⟩
    refine ⟨fun hlt => ?_, fun hge => ?_⟩
    · rw [sumIn_step i0 hlt] at hI
      have hel := ent_Ez he i0 hlt
      have hs' := sumIn_nonneg (l.drop (i + 1).toNat)
      refine ⟨i0, hlt, ⟨by omega, by omega, by omega⟩, ?_⟩
      rintro m rfl
      refine ⟨fun hm => ?_, fun hm => ?_⟩
      · rw [if_pos (by split at hm <;> omega)]
      · rw [if_neg (by split at hm <;> omega)]
        exact ⟨by omega, ⟨by omega, by omega, by split at hm <;> omega, by omega, by omega⟩, by omega⟩
    · rw [sumIn_end hge] at hI
      rw [if_neg (by omega)]; omega
def V_l_eqEntry : Prop :=
  ∀ (n0 : Int) (l1 : List Int) (n2 : Int) (l3 : List Int), (l1.length : Int) ≤ 1099511627776 ∧ (l3.length : Int) ≤ 1099511627776 → (n0 ≠ n2 → false = decide ((n0, l1) = (n2, l3))) ∧ (¬n0 ≠ n2 → ((l1.length : Int) ≤ 1099511627776 ∧ (l3.length :
 Int) ≤ 1099511627776) ∧ (true = decide (l1 = l3) → true = decide ((n0, l1) = (n2, l3))) ∧ (false = decide (l1 = l3) → false = decide ((n0, l1) = (n2, l3))))
theorem v_l_eqEntry : V_l_eqEntry := by
  unfold V_l_eqEntry
  rintro n l n2 l2 ⟨h1, h2⟩
  simp only [Prod.mk.injEq]
  grind
def V_l_eqEntryS : Prop :=
  ∀ (l0 l1 : List (Int × List Int)), szE l0 ≤ 2000000 ∧ szE l1 ≤ 2000000 → ((l0.length : Int) ≠ (l1.length : Int) → false = decide (l0 = l1)) ∧ (¬(l0.length : Int) ≠ (l1.length : Int) → ∃ (I2 : Int → Prop), ∃ (m3 : Int → Nat), I2 0 ∧ ∀ (n4 :
 Int), I2 n4 → (n4 < (l0.length : Int) → 0 ≤ n4 ∧ n4 < (l0.length : Int) ∧ 0 ≤ n4 ∧ n4 < (l1.length : Int) ∧ (∃ (b : Bool), b = decide ((Prod.fst (List.getD l0 (n4.toNat) (0, [])), Prod.snd (List.getD l0 (n4.toNat) (0, []))) = (Prod.fst
 (List.getD l1 (n4.toNat) (0, [])), Prod.snd (List.getD l1 (n4.toNat) (0, []))))) ∧ ((↑(List.length (Prod.snd (List.getD l0 (n4.toNat) (0, [])))) : Int) ≤ 1099511627776 ∧ (↑(List.length (Prod.snd (List.getD l1 (n4.toNat) (0, [])))) : Int) ≤
 1099511627776) ∧ (true = decide ((Prod.fst (List.getD l0 (n4.toNat) (0, [])), Prod.snd (List.getD l0 (n4.toNat) (0, []))) = (Prod.fst (List.getD l1 (n4.toNat) (0, [])), Prod.snd (List.getD l1 (n4.toNat) (0, [])))) → (-9223372036854775808 ≤
 n4 + 1 ∧ n4 + (1 : Int) ≤ (9223372036854775807 : Int)) ∧ I2 (n4 + 1) ∧ m3 (n4 + 1) < m3 n4) ∧ (false = decide ((Prod.fst (List.getD l0 (n4.toNat) (0, [])), Prod.snd (List.getD l0 (n4.toNat) (0, []))) = (Prod.fst (List.getD l1 (n4.toNat) (0,
 [])), Prod.snd (List.getD l1 (n4.toNat) (0, [])))) → false = decide (l0 = l1))) ∧ (¬n4 < (l0.length : Int) → true = decide (l0 = l1)))
theorem v_l_eqEntryS : V_l_eqEntryS := by
  unfold V_l_eqEntryS
  rintro a b ⟨ha, hb⟩
  have hsa := sumIn_nonneg a
  have hsb := sumIn_nonneg b
  have hla : (a.length : Int) ≤ 2000000 := by unfold szE at ha; omega
  refine ⟨fun h => ?_, fun h => ?_⟩
  · have : a ≠ b := fun e => h (by rw [e])
    simp [this]
  refine ⟨fun i => 0 ≤ i ∧ i ≤ a.length ∧ (a.drop i.toNat = b.drop i.toNat ↔ a = b), fun i => (a.length - i).toNat, ?_, ?_⟩ <;> dsimp only
  · simp
  rintro i ⟨h0, h1, h2⟩
  refine ⟨fun hlt => ?_, fun hge => ?_⟩
  · have e1 := ent_len h0 hlt
    have e2 := ent_len (l := b) h0 (by omega)
    rw [drop_lt (0, []) h0 hlt, drop_lt (0, []) h0 (show i < (b.length : Int) by omega), List.cons.injEq] at h2
    refine ⟨h0, hlt, h0, by omega, ⟨_, rfl⟩, ⟨by omega, by omega⟩, fun h => ?_, fun h => ?_⟩
    · simp only [true_eq_decide_iff] at h
      exact ⟨by omega, ⟨by omega, by omega, by rw [← h2]; exact ⟨fun q => ⟨h, q⟩, fun q => q.2⟩⟩, by omega⟩
    · simp only [false_eq_decide_iff] at h
      have : ¬ a = b := fun e => h (h2.2 e).1
      simp [this]
  · rw [drop_ge hge, drop_ge (show ¬ i < (b.length : Int) by omega)] at h2
    simp [← h2]
def V_i_EntriesValid : Prop :=
  ∀ (l0 : List (Int × List Int)), szE l0 ≤ 2000000 → ∃ (I1 : Int → Prop), ∃ (m2 : Int → Nat), I1 0 ∧ ∀ (n3 : Int), I1 n3 → (n3 < (l0.length : Int) → 0 ≤ n3 ∧ n3 < (l0.length : Int) ∧ (∃ (b : Bool), b = decide (1 ≤ Prod.fst (List.getD l0
 (n3.toNat) (0, [])) ∧ Prod.fst (List.getD l0 (n3.toNat) (0, [])) ≤ 20)) ∧ True ∧ (true = decide (1 ≤ Prod.fst (List.getD l0 (n3.toNat) (0, [])) ∧ Prod.fst (List.getD l0 (n3.toNat) (0, [])) ≤ 20) → (∃ (b : Bool), b = LV (Prod.snd (List.getD
 l0 (n3.toNat) (0, [])))) ∧ (↑(List.length (Prod.snd (List.getD l0 (n3.toNat) (0, [])))) : Int) ≤ 1099511627776 ∧ (true = LV (Prod.snd (List.getD l0 (n3.toNat) (0, []))) → (0 < n3 → (-9223372036854775808 ≤ n3 - 1 ∧ n3 - (1 : Int) ≤
 (9223372036854775807 : Int)) ∧ 0 ≤ n3 - 1 ∧ n3 - 1 < (l0.length : Int) ∧ (Prod.fst (List.getD l0 (n3.toNat) (0, [])) ≤ Prod.fst (List.getD l0 (Int.toNat (n3 - 1)) (0, [])) → false = entOk l0) ∧ (¬Prod.fst (List.getD l0 (n3.toNat) (0, [])) ≤
 Prod.fst (List.getD l0 (Int.toNat (n3 - 1)) (0, [])) → (-9223372036854775808 ≤ n3 + 1 ∧ n3 + (1 : Int) ≤ (9223372036854775807 : Int)) ∧ I1 (n3 + 1) ∧ m2 (n3 + 1) < m2 n3)) ∧ (¬0 < n3 → (-9223372036854775808 ≤ n3 + 1 ∧ n3 + (1 : Int) ≤
 (9223372036854775807 : Int)) ∧ I1 (n3 + 1) ∧ m2 (n3 + 1) < m2 n3)) ∧ (false = LV (Prod.snd (List.getD l0 (n3.toNat) (0, []))) → false = entOk l0)) ∧ (false = decide (1 ≤ Prod.fst (List.getD l0 (n3.toNat) (0, [])) ∧ Prod.fst (List.getD l0
 (n3.toNat) (0, [])) ≤ 20) → false = entOk l0)) ∧ (¬n3 < (l0.length : Int) → ((l0.length : Int) ≤ 5 → true = entOk l0) ∧ (¬(l0.length : Int) ≤ 5 → false = entOk l0))
theorem v_i_EntriesValid : V_i_EntriesValid := by
  unfold V_i_EntriesValid
  intro l hs
  have hsz := sumIn_nonneg l
  have hz : (l.length : Int) ≤ 2000000 := by unfold szE at hs; omega
  have hno : entFrom none l = false → false = entOk l := fun h => by unfold entOk; rw [h]; rfl
  refine ⟨fun i => 0 ≤ i ∧ i ≤ l.length ∧ entFrom (prevOf l i) (l.drop i.toNat) = entFrom none l, fun i => (l.length - i).toNat, ?_, ?_⟩ <;> dsimp only
  · simp [prevOf]
  rintro i ⟨h0, h1, hI⟩
  refine ⟨fun hlt => ?_, fun hge => ?_⟩
  · have hel := ent_len h0 hlt
    rw [ent_step h0 hlt] at hI
    generalize entFrom (prevOf l (i + 1)) (l.drop (i + 1).toNat) = F at *
    generalize l.getD i.toNat (0, []) = x at *
    generalize l.getD (i - 1).toNat (0, []) = y at *
    refine ⟨h0, hlt, ⟨_, rfl⟩, trivial, fun h => ⟨⟨_, rfl⟩, by omega, fun hv => ⟨fun hi => ⟨by omega, by omega, by omega, fun hn => hno ?_, fun hn => ?_⟩, fun hi => ?_⟩, fun hv => hno ?_⟩, fun h => hno ?_⟩
    · rw [← hI, if_pos hi, decide_eq_false (by omega : ¬ y.1 < x.1)]; simp
    · rw [if_pos hi, decide_eq_true (by omega : y.1 < x.1), ← hv, ← h] at hI
      exact ⟨by omega, ⟨by omega, by omega, by simpa using hI⟩, by omega⟩
    · rw [if_neg hi, ← hv, ← h] at hI
      exact ⟨by omega, ⟨by omega, by omega, by simpa using hI⟩, by omega⟩
    · rw [← hI, ← hv]; simp
    · rw [← hI, ← h]; simp
  · rw [ent_end hge] at hI
    unfold entOk
    rw [← hI]
    exact ⟨fun h => by simp; omega, fun h => by simp; omega⟩
def V_s_EntriesValid : Prop :=
  ∀ (l0 : List (Int × List Int)), szE l0 ≤ 2000000 → ∃ (I1 : Int → Prop), ∃ (m2 : Int → Nat), I1 0 ∧ ∀ (n3 : Int), I1 n3 → (n3 < (l0.length : Int) → 0 ≤ n3 ∧ n3 < (l0.length : Int) ∧ (∃ (b : Bool), b = decide (1 ≤ Prod.fst (List.getD l0
 (n3.toNat) (0, [])) ∧ Prod.fst (List.getD l0 (n3.toNat) (0, [])) ≤ 20)) ∧ True ∧ (true = decide (1 ≤ Prod.fst (List.getD l0 (n3.toNat) (0, [])) ∧ Prod.fst (List.getD l0 (n3.toNat) (0, [])) ≤ 20) → 0 ≤ n3 ∧ n3 < (l0.length : Int) ∧ (∃ (b :
 Bool), b = LV (Prod.snd (List.getD l0 (n3.toNat) (0, [])))) ∧ (↑(List.length (Prod.snd (List.getD l0 (n3.toNat) (0, [])))) : Int) ≤ 1099511627776 ∧ (true = LV (Prod.snd (List.getD l0 (n3.toNat) (0, []))) → (0 < n3 → (-9223372036854775808 ≤
 n3 - 1 ∧ n3 - (1 : Int) ≤ (9223372036854775807 : Int)) ∧ 0 ≤ n3 - 1 ∧ n3 - 1 < (l0.length : Int) ∧ 0 ≤ n3 ∧ n3 < (l0.length : Int) ∧ (Prod.fst (List.getD l0 (n3.toNat) (0, [])) ≤ Prod.fst (List.getD l0 (Int.toNat (n3 - 1)) (0, [])) → false =
 entOk l0) ∧ (¬Prod.fst (List.getD l0 (n3.toNat) (0, [])) ≤ Prod.fst (List.getD l0 (Int.toNat (n3 - 1)) (0, [])) → (-9223372036854775808 ≤ n3 + 1 ∧ n3 + (1 : Int) ≤ (9223372036854775807 : Int)) ∧ I1 (n3 + 1) ∧ m2 (n3 + 1) < m2 n3)) ∧ (¬0 < n3
 → (-9223372036854775808 ≤ n3 + 1 ∧ n3 + (1 : Int) ≤ (9223372036854775807 : Int)) ∧ I1 (n3 + 1) ∧ m2 (n3 + 1) < m2 n3)) ∧ (false = LV (Prod.snd (List.getD l0 (n3.toNat) (0, []))) → false = entOk l0)) ∧ (false = decide (1 ≤ Prod.fst (List.getD
 l0 (n3.toNat) (0, [])) ∧ Prod.fst (List.getD l0 (n3.toNat) (0, [])) ≤ 20) → false = entOk l0)) ∧ (¬n3 < (l0.length : Int) → ((l0.length : Int) ≤ 5 → true = entOk l0) ∧ (¬(l0.length : Int) ≤ 5 → false = entOk l0))
theorem v_s_EntriesValid : V_s_EntriesValid := by
  unfold V_s_EntriesValid
  intro l hs
  have hsz := sumIn_nonneg l
  have hz : (l.length : Int) ≤ 2000000 := by unfold szE at hs; omega
  have hno : entFrom none l = false → false = entOk l := fun h => by unfold entOk; rw [h]; rfl
  refine ⟨fun i => 0 ≤ i ∧ i ≤ l.length ∧ entFrom (prevOf l i) (l.drop i.toNat) = entFrom none l, fun i => (l.length - i).toNat, ?_, ?_⟩ <;> dsimp only
  · simp [prevOf]
  rintro i ⟨h0, h1, hI⟩
  refine ⟨fun hlt => ?_, fun hge => ?_⟩
  · have hel := ent_len h0 hlt
    rw [ent_step h0 hlt] at hI
    generalize entFrom (prevOf l (i + 1)) (l.drop (i + 1).toNat) = F at *
    generalize l.getD i.toNat (0, []) = x at *
    generalize l.getD (i - 1).toNat (0, []) = y at *
    refine ⟨h0, hlt, ⟨_, rfl⟩, trivial, fun h => ⟨h0, hlt, ⟨_, rfl⟩, by omega, fun hv => ⟨fun hi => ⟨by omega, by omega, by omega, h0, hlt, fun hn => hno ?_, fun hn => ?_⟩, fun hi => ?_⟩, fun hv => hno ?_⟩, fun h => hno ?_⟩
    · rw [← hI, if_pos hi, decide_eq_false (by omega : ¬ y.1 < x.1)]; simp
    · rw [if_pos hi, decide_eq_true (by omega : y.1 < x.1), ← hv, ← h] at hI
      exact ⟨by omega, ⟨by omega, by omega, by simpa using hI⟩, by omega⟩
    · rw [if_neg hi, ← hv, ← h] at hI
      exact ⟨by omega, ⟨by omega, by omega, by simpa using hI⟩, by omega⟩
    · rw [← hI, ← hv]; simp
    · rw [← hI, ← h]; simp
  · rw [ent_end hge] at hI
    unfold entOk
    rw [← hI]
    exact ⟨fun h => by simp; omega, fun h => by simp; omega⟩
end Go.Proofs.Ytkkgpcbkkahieaa
