/-
  The conditions of functions, proved: j_count.
-/
import Derived.Test.YtkkgpcbkkahieaaM
set_option linter.unusedVariables false
set_option linter.unusedSimpArgs false
open Go Go.Ax Go.Mx
namespace Go.Proofs.Ytkkgpcbkkahieaa
def V_i_RunsOf : Prop :=
  ∀ (l0 : List Int), (l0.length : Int) ≤ 1099511627776 → (l0.length : Int) ≤ 1099511627776 ∧ (true = LV l0 → ∃ (I1 : List (Int × Int) → Int → Prop), ∃ (m2 : List (Int × Int) → Int → Nat), I1 [] 0 ∧ ∀ (l3 : List (Int × Int)) (n4 : Int), I1 l3
 n4 → (n4 < (l0.length : Int) → 0 ≤ n4 ∧ n4 < (l0.length : Int) ∧ (n4 = 0 → (↑(l3.length + List.length [(List.getD l0 (n4.toNat) 0, 0)]) : Int) ≤ 1099511627776 ∧ (-9223372036854775808 ≤ (↑(List.length (l3 ++ [(List.getD l0 (n4.toNat) 0, 0)]))
 : Int) - 1 ∧ (↑(List.length (l3 ++ [(List.getD l0 (n4.toNat) 0, 0)])) : Int) - (1 : Int) ≤ (9223372036854775807 : Int)) ∧ 0 ≤ (↑(List.length (l3 ++ [(List.getD l0 (n4.toNat) 0, 0)])) : Int) - 1 ∧ (↑(List.length (l3 ++ [(List.getD l0
 (n4.toNat) 0, 0)])) : Int) - 1 < (↑(List.length (l3 ++ [(List.getD l0 (n4.toNat) 0, 0)])) : Int) ∧ Int.toNat ((↑(List.length (l3 ++ [(List.getD l0 (n4.toNat) 0, 0)])) : Int) - 1) < List.length (l3 ++ [(List.getD l0 (n4.toNat) 0, 0)]) ∧
 (-9223372036854775808 ≤ Prod.snd (List.getD (l3 ++ [(List.getD l0 (n4.toNat) 0, 0)]) (Int.toNat ((↑(List.length (l3 ++ [(List.getD l0 (n4.toNat) 0, 0)])) : Int) - 1)) (0, 0)) + 1 ∧ Prod.snd (List.getD (l3 ++ [(List.getD l0 (n4.toNat) 0, 0)])
 (Int.toNat ((↑(List.length (l3 ++ [(List.getD l0 (n4.toNat) 0, 0)])) : Int) - 1)) (0, 0)) + (1 : Int) ≤ (9223372036854775807 : Int)) ∧ 0 ≤ (↑(List.length (l3 ++ [(List.getD l0 (n4.toNat) 0, 0)])) : Int) - 1 ∧ (↑(List.length (l3 ++
 [(List.getD l0 (n4.toNat) 0, 0)])) : Int) - 1 < (↑(List.length (l3 ++ [(List.getD l0 (n4.toNat) 0, 0)])) : Int) ∧ Int.toNat ((↑(List.length (l3 ++ [(List.getD l0 (n4.toNat) 0, 0)])) : Int) - 1) < List.length (l3 ++ [(List.getD l0 (n4.toNat)
 0, 0)]) ∧ (-9223372036854775808 ≤ n4 + 1 ∧ n4 + (1 : Int) ≤ (9223372036854775807 : Int)) ∧ I1 (List.set (l3 ++ [(List.getD l0 (n4.toNat) 0, 0)]) (Int.toNat ((↑(List.length (l3 ++ [(List.getD l0 (n4.toNat) 0, 0)])) : Int) - 1)) (Prod.fst
 (List.getD (l3 ++ [(List.getD l0 (n4.toNat) 0, 0)]) (Int.toNat ((↑(List.length (l3 ++ [(List.getD l0 (n4.toNat) 0, 0)])) : Int) - 1)) (0, 0)), Prod.snd (List.getD (l3 ++ [(List.getD l0 (n4.toNat) 0, 0)]) (Int.toNat ((↑(List.length (l3 ++
 [(List.getD l0 (n4.toNat) 0, 0)])) : Int) - 1)) (0, 0)) + 1)) (n4 + 1) ∧ m2 (List.set (l3 ++ [(List.getD l0 (n4.toNat) 0, 0)]) (Int.toNat ((↑(List.length (l3 ++ [(List.getD l0 (n4.toNat) 0, 0)])) : Int) - 1)) (Prod.fst (List.getD (l3 ++
 [(List.getD l0 (n4.toNat) 0, 0)]) (Int.toNat ((↑(List.length (l3 ++ [(List.getD l0 (n4.toNat) 0, 0)])) : Int) - 1)) (0, 0)), Prod.snd (List.getD (l3 ++ [(List.getD l0 (n4.toNat) 0, 0)]) (Int.toNat ((↑(List.length (l3 ++ [(List.getD l0
 (n4.toNat) 0, 0)])) : Int) - 1)) (0, 0)) + 1)) (n4 + 1) < m2 l3 n4) ∧ (¬n4 = 0 → (-9223372036854775808 ≤ n4 - 1 ∧ n4 - (1 : Int) ≤ (9223372036854775807 : Int)) ∧ 0 ≤ n4 - 1 ∧ n4 - 1 < (l0.length : Int) ∧ (List.getD l0 (Int.toNat (n4 - 1)) 0
 ≠ List.getD l0 (n4.toNat) 0 → (↑(l3.length + List.length [(List.getD l0 (n4.toNat) 0, 0)]) : Int) ≤ 1099511627776 ∧ (-9223372036854775808 ≤ (↑(List.length (l3 ++ [(List.getD l0 (n4.toNat) 0, 0)])) : Int) - 1 ∧ (↑(List.length (l3 ++
 [(List.getD l0 (n4.toNat) 0, 0)])) : Int) - (1 : Int) ≤ (9223372036854775807 : Int)) ∧ 0 ≤ (↑(List.length (l3 ++ [(List.getD l0 (n4.toNat) 0, 0)])) : Int) - 1 ∧ (↑(List.length (l3 ++ [(List.getD l0 (n4.toNat) 0, 0)])) : Int) - 1 <
 (↑(List.length (l3 ++ [(List.getD l0 (n4.toNat) 0, 0)])) : Int) ∧ Int.toNat ((↑(List.length (l3 ++ [(List.getD l0 (n4.toNat) 0, 0)])) : Int) - 1) < List.length (l3 ++ [(List.getD l0 (n4.toNat) 0, 0)]) ∧ (-9223372036854775808 ≤ Prod.snd
 (List.getD (l3 ++ [(List.getD l0 (n4.toNat) 0, 0)]) (Int.toNat ((↑(List.length (l3 ++ [(List.getD l0 (n4.toNat) 0, 0)])) : Int) - 1)) (0, 0)) + 1 ∧ Prod.snd (List.getD (l3 ++ [(List.getD l0 (n4.toNat) 0, 0)]) (Int.toNat ((↑(List.length (l3
 ++ [(List.getD l0 (n4.toNat) 0, 0)])) : Int) - 1)) (0, 0)) + (1 : Int) ≤ (9223372036854775807 : Int)) ∧ 0 ≤ (↑(List.length (l3 ++ [(List.getD l0 (n4.toNat) 0, 0)])) : Int) - 1 ∧ (↑(List.length (l3 ++ [(List.getD l0 (n4.toNat) 0, 0)])) : Int)
 - 1 < (↑(List.length (l3 ++ [(List.getD l0 (n4.toNat) 0, 0)])) : Int) ∧ Int.toNat ((↑(List.length (l3 ++ [(List.getD l0 (n4.toNat) 0, 0)])) : Int) - 1) < List.length (l3 ++ [(List.getD l0 (n4.toNat) 0, 0)]) ∧ (-9223372036854775808 ≤ n4 + 1 ∧
 n4 + (1 : Int) ≤ (9223372036854775807 : Int)) ∧ I1 (List.set (l3 ++ [(List.getD l0 (n4.toNat) 0, 0)]) (Int.toNat ((↑(List.length (l3 ++ [(List.getD l0 (n4.toNat) 0, 0)])) : Int) - 1)) (Prod.fst (List.getD (l3 ++ [(List.getD l0 (n4.toNat) 0,
 0)]) (Int.toNat ((↑(List.length (l3 ++ [(List.getD l0 (n4.toNat) 0, 0)])) : Int) - 1)) (0, 0)), Prod.snd (List.getD (l3 ++ [(List.getD l0 (n4.toNat) 0, 0)]) (Int.toNat ((↑(List.length (l3 ++ [(List.getD l0 (n4.toNat) 0, 0)])) : Int) - 1))
 (0, 0)) + 1)) (n4 + 1) ∧ m2 (List.set (l3 ++ [(List.getD l0 (n4.toNat) 0, 0)]) (Int.toNat ((↑(List.length (l3 ++ [(List.getD l0 (n4.toNat) 0, 0)])) : Int) - 1)) (Prod.fst (List.getD (l3 ++ [(List.getD l0 (n4.toNat) 0, 0)]) (Int.toNat
 ((↑(List.length (l3 ++ [(List.getD l0 (n4.toNat) 0, 0)])) : Int) - 1)) (0, 0)), Prod.snd (List.getD (l3 ++ [(List.getD l0 (n4.toNat) 0, 0)]) (Int.toNat ((↑(List.length (l3 ++ [(List.getD l0 (n4.toNat) 0, 0)])) : Int) - 1)) (0, 0)) + 1)) (n4
 + 1) < m2 l3 n4) ∧ (¬List.getD l0 (Int.toNat (n4 - 1)) 0 ≠ List.getD l0 (n4.toNat) 0 → (-9223372036854775808 ≤ (l3.length : Int) - 1 ∧ (l3.length : Int) - (1 : Int) ≤ (9223372036854775807 : Int)) ∧ 0 ≤ (l3.length : Int) - 1 ∧ (l3.length :
 Int) - 1 < (l3.length : Int) ∧ Int.toNat ((l3.length : Int) - 1) < l3.length ∧ (-9223372036854775808 ≤ Prod.snd (List.getD l3 (Int.toNat ((l3.length : Int) - 1)) (0, 0)) + 1 ∧ Prod.snd (List.getD l3 (Int.toNat ((l3.length : Int) - 1)) (0,
 0)) + (1 : Int) ≤ (9223372036854775807 : Int)) ∧ 0 ≤ (l3.length : Int) - 1 ∧ (l3.length : Int) - 1 < (l3.length : Int) ∧ Int.toNat ((l3.length : Int) - 1) < l3.length ∧ (-9223372036854775808 ≤ n4 + 1 ∧ n4 + (1 : Int) ≤ (9223372036854775807 :
 Int)) ∧ I1 (List.set l3 (Int.toNat ((l3.length : Int) - 1)) (Prod.fst (List.getD l3 (Int.toNat ((l3.length : Int) - 1)) (0, 0)), Prod.snd (List.getD l3 (Int.toNat ((l3.length : Int) - 1)) (0, 0)) + 1)) (n4 + 1) ∧ m2 (List.set l3 (Int.toNat
 ((l3.length : Int) - 1)) (Prod.fst (List.getD l3 (Int.toNat ((l3.length : Int) - 1)) (0, 0)), Prod.snd (List.getD l3 (Int.toNat ((l3.length : Int) - 1)) (0, 0)) + 1)) (n4 + 1) < m2 l3 n4))) ∧ (¬n4 < (l0.length : Int) → l3 = runsD l0 ∧
 (l3.length : Int) ≤ 40)) ∧ (false = LV l0 → [] = runsD l0 ∧ (↑0 : Int) ≤ 40)
theorem v_i_RunsOf : V_i_RunsOf := by
  unfold V_i_RunsOf
  intro l hz
  refine ⟨hz, fun hv => ?_, fun hv => ?_⟩
  · have hl := LV_len hv.symm
    have hD : runsD l = runs l := if_pos hv.symm
    have hrl := runs_len l
    rw [hD]
    refine ⟨fun o i => 0 ≤ i ∧ i ≤ l.length ∧ o = runs (l.take i.toNat), fun o i => (l.length - i).toNat, ?_, ?_⟩ <;> dsimp only
    · simp [runs]
    rintro o i ⟨h0, h1, hI⟩
    refine ⟨fun hlt => ?_, fun hge => by rw [take_ge hge] at hI; subst hI; exact ⟨rfl, by omega⟩⟩
    have hs := runs_step h0 hlt
    rw [← hI] at hs
    refine ⟨h0, hlt, fun hi => ?_, fun hi => ⟨by omega, by omega, by omega, fun hne => ?_, fun he => ?_⟩⟩
    · subst hi
      have : o = [] := by rw [hI]; rfl
      subst this
      rw [runsAdd_nil] at hs
      rw [hs, last_get, last_set]
      simp; omega
    · obtain ⟨q, k, h2, h3, h4⟩ := runs_take (l := l) (i := i) (by omega) (by omega)
      rw [h2] at hI
      rw [hI, runsAdd_last, if_neg hne, ← hI] at hs
      rw [hs, last_get, last_set]
      have : o.length = q.length + 1 := by rw [hI]; simp
      simp; omega
    · obtain ⟨q, k, h2, h3, h4⟩ := runs_take (l := l) (i := i) (by omega) (by omega)
      rw [h2] at hI
      have he' : l.getD (i - 1).toNat 0 = l.getD i.toNat 0 := by omega
      rw [hI, runsAdd_last, if_pos he'] at hs
      subst hI
      rw [hs, last_get, last_set, he']
      simp; omega
  · have : runsD l = [] := if_neg (by rw [← hv]; simp)
    rw [this]; simp
def V_s_l4Runs : Prop :=
  ∀ (l0 : List Int), LV l0 = true → ∃ (I1 : List (Int × Int) → Int → Prop), ∃ (m2 : List (Int × Int) → Int → Nat), I1 [] 0 ∧ ∀ (l3 : List (Int × Int)) (n4 : Int), I1 l3 n4 → (n4 < (l0.length : Int) → (0 < n4 → 0 ≤ n4 ∧ n4 < (l0.length : Int) ∧
 (-9223372036854775808 ≤ n4 - 1 ∧ n4 - (1 : Int) ≤ (9223372036854775807 : Int)) ∧ 0 ≤ n4 - 1 ∧ n4 - 1 < (l0.length : Int) ∧ (List.getD l0 (n4.toNat) 0 = List.getD l0 (Int.toNat (n4 - 1)) 0 → (-9223372036854775808 ≤ (l3.length : Int) - 1 ∧
 (l3.length : Int) - (1 : Int) ≤ (9223372036854775807 : Int)) ∧ (-9223372036854775808 ≤ (l3.length : Int) - 1 ∧ (l3.length : Int) - (1 : Int) ≤ (9223372036854775807 : Int)) ∧ 0 ≤ (l3.length : Int) - 1 ∧ (l3.length : Int) - 1 < (l3.length :
 Int) ∧ Int.toNat ((l3.length : Int) - 1) < l3.length ∧ (-9223372036854775808 ≤ Prod.snd (List.getD l3 (Int.toNat ((l3.length : Int) - 1)) (0, 0)) + 1 ∧ Prod.snd (List.getD l3 (Int.toNat ((l3.length : Int) - 1)) (0, 0)) + (1 : Int) ≤
 (9223372036854775807 : Int)) ∧ 0 ≤ (l3.length : Int) - 1 ∧ (l3.length : Int) - 1 < (l3.length : Int) ∧ Int.toNat ((l3.length : Int) - 1) < l3.length ∧ (-9223372036854775808 ≤ n4 + 1 ∧ n4 + (1 : Int) ≤ (9223372036854775807 : Int)) ∧ I1
 (List.set l3 (Int.toNat ((l3.length : Int) - 1)) (Prod.fst (List.getD l3 (Int.toNat ((l3.length : Int) - 1)) (0, 0)), Prod.snd (List.getD l3 (Int.toNat ((l3.length : Int) - 1)) (0, 0)) + 1)) (n4 + 1) ∧ m2 (List.set l3 (Int.toNat ((l3.length
 : Int) - 1)) (Prod.fst (List.getD l3 (Int.toNat ((l3.length : Int) - 1)) (0, 0)), Prod.snd (List.getD l3 (Int.toNat ((l3.length : Int) - 1)) (0, 0)) + 1)) (n4 + 1) < m2 l3 n4) ∧ (¬List.getD l0 (n4.toNat) 0 = List.getD l0 (Int.toNat (n4 - 1))
 0 → 0 ≤ n4 ∧ n4 < (l0.length : Int) ∧ (↑(l3.length + List.length [(List.getD l0 (n4.toNat) 0, 1)]) : Int) ≤ 1099511627776 ∧ (-9223372036854775808 ≤ n4 + 1 ∧ n4 + (1 : Int) ≤ (9223372036854775807 : Int)) ∧ I1 (l3 ++ [(List.getD l0 (n4.toNat)
 0, 1)]) (n4 + 1) ∧ m2 (l3 ++ [(List.getD l0 (n4.toNat) 0, 1)]) (n4 + 1) < m2 l3 n4)) ∧ (¬0 < n4 → 0 ≤ n4 ∧ n4 < (l0.length : Int) ∧ (↑(l3.length + List.length [(List.getD l0 (n4.toNat) 0, 1)]) : Int) ≤ 1099511627776 ∧ (-9223372036854775808 ≤
 n4 + 1 ∧ n4 + (1 : Int) ≤ (9223372036854775807 : Int)) ∧ I1 (l3 ++ [(List.getD l0 (n4.toNat) 0, 1)]) (n4 + 1) ∧ m2 (l3 ++ [(List.getD l0 (n4.toNat) 0, 1)]) (n4 + 1) < m2 l3 n4)) ∧ (¬n4 < (l0.length : Int) → l3 = runs l0 ∧ (l3.length : Int) ≤
 40)
theorem v_s_l4Runs : V_s_l4Runs := by
  unfold V_s_l4Runs
  intro l hv
  have hl := LV_len hv
  have hrl := runs_len l
  refine ⟨fun o i => 0 ≤ i ∧ i ≤ l.length ∧ o = runs (l.take i.toNat), fun o i => (l.length - i).toNat, ?_, ?_⟩ <;> dsimp only
  · simp [runs]
  rintro o i ⟨h0, h1, hI⟩
  refine ⟨fun hlt => ?_, fun hge => by rw [take_ge hge] at hI; subst hI; exact ⟨rfl, by omega⟩⟩
  have hs := runs_step h0 hlt
  rw [← hI] at hs
  refine ⟨fun hi => ⟨by omega, by omega, by omega, by omega, by omega, fun he => ?_, fun hne => ?_⟩, fun hi => ?_⟩
  · obtain ⟨q, k, h2, h3, h4⟩ := runs_take (l := l) (i := i) (by omega) (by omega)
    rw [h2] at hI
    rw [hI, runsAdd_last, if_pos he.symm] at hs
    subst hI
    rw [hs, last_get, last_set, he.symm]
    simp; omega
  · obtain ⟨q, k, h2, h3, h4⟩ := runs_take (l := l) (i := i) (by omega) (by omega)
    rw [h2] at hI
    rw [hI, runsAdd_last, if_neg (by omega), ← hI] at hs
    rw [hs]
    have : o.length = q.length + 1 := by rw [hI]; simp
    simp; omega
  · have hi' : i = 0 := by omega
    subst hi'
    have : o = [] := by rw [hI]; rfl
    subst this
    rw [runsAdd_nil] at hs
    rw [hs]
    simp; omega
def V_i_countsOf : Prop :=
  ∀ (l0 : List Int), LV l0 = true → (8 : Int) = 8 ∧ (0 : Int) ≤ 8 ∧ (8 : Int) ≤ 1099511627776 ∧ ∃ (I1 : Int → List Int → Prop), ∃ (m2 : Int → List Int → Nat), I1 0 (List.replicate (Int.toNat 8) 0) ∧ ∀ (n3 : Int) (l4 : List Int), I1 n3 l4 → (n3
 < (l0.length : Int) → 0 ≤ n3 ∧ n3 < (l0.length : Int) ∧ 0 ≤ List.getD l0 (n3.toNat) 0 ∧ List.getD l0 (n3.toNat) 0 < (l4.length : Int) ∧ Int.toNat (List.getD l0 (n3.toNat) 0) < l4.length ∧ (-9223372036854775808 ≤ List.getD l4 (Int.toNat
 (List.getD l0 (n3.toNat) 0)) 0 + 1 ∧ List.getD l4 (Int.toNat (List.getD l0 (n3.toNat) 0)) 0 + (1 : Int) ≤ (9223372036854775807 : Int)) ∧ 0 ≤ List.getD l0 (n3.toNat) 0 ∧ List.getD l0 (n3.toNat) 0 < (l4.length : Int) ∧ Int.toNat (List.getD l0
 (n3.toNat) 0) < l4.length ∧ (-9223372036854775808 ≤ n3 + 1 ∧ n3 + (1 : Int) ≤ (9223372036854775807 : Int)) ∧ I1 (n3 + 1) (List.set l4 (Int.toNat (List.getD l0 (n3.toNat) 0)) (List.getD l4 (Int.toNat (List.getD l0 (n3.toNat) 0)) 0 + 1)) ∧ m2
 (n3 + 1) (List.set l4 (Int.toNat (List.getD l0 (n3.toNat) 0)) (List.getD l4 (Int.toNat (List.getD l0 (n3.toNat) 0)) 0 + 1)) < m2 n3 l4) ∧ (¬n3 < (l0.length : Int) → l4 = countsL l0)
theorem v_i_countsOf : V_i_countsOf := by
  unfold V_i_countsOf
  intro l hv
  have hl := LV_len hv
  refine ⟨rfl, by omega, by omega, ?_⟩
  refine ⟨fun i o => 0 ≤ i ∧ i ≤ l.length ∧ o = countsL (l.take i.toNat), fun i o => (l.length - i).toNat, ?_, ?_⟩ <;> dsimp only
  · simp [countsL, cnt]
  rintro i o ⟨h0, h1, rfl⟩
  refine ⟨fun hlt => ?_, fun hge => by rw [take_ge hge]⟩
  have hs := LV_at hv h0 hlt
  have hb := countsL_bd (l.take i.toNat) hs.1 hs.2
  have ht := len_take h0 h1
  have hc := countsL_snoc (l.take i.toNat) hs.1 hs.2
  rw [← take_lt 0 h0 hlt] at hc
  simp only [countsL_len]
  exact ⟨h0, hlt, by omega, by omega, by omega, by omega, by omega, by omega, by omega, by omega, ⟨by omega, by omega, hc⟩, by omega⟩
def V_s_l3Counts : Prop :=
  ∀ (l0 : List Int), LV l0 = true → (8 : Int) = 8 ∧ (0 : Int) ≤ 8 ∧ (8 : Int) ≤ 1099511627776 ∧ ∃ (I1 : Int → List Int → Prop), ∃ (m2 : Int → List Int → Nat), I1 0 (List.replicate (Int.toNat 8) 0) ∧ ∀ (n3 : Int) (l4 : List Int), I1 n3 l4 → (n3
 < (l0.length : Int) → 0 ≤ n3 ∧ n3 < (l0.length : Int) ∧ 0 ≤ n3 ∧ n3 < (l0.length : Int) ∧ 0 ≤ List.getD l0 (n3.toNat) 0 ∧ List.getD l0 (n3.toNat) 0 < (l4.length : Int) ∧ Int.toNat (List.getD l0 (n3.toNat) 0) < l4.length ∧
 (-9223372036854775808 ≤ List.getD l4 (Int.toNat (List.getD l0 (n3.toNat) 0)) 0 + 1 ∧ List.getD l4 (Int.toNat (List.getD l0 (n3.toNat) 0)) 0 + (1 : Int) ≤ (9223372036854775807 : Int)) ∧ 0 ≤ List.getD l0 (n3.toNat) 0 ∧ List.getD l0 (n3.toNat)
 0 < (l4.length : Int) ∧ Int.toNat (List.getD l0 (n3.toNat) 0) < l4.length ∧ (-9223372036854775808 ≤ n3 + 1 ∧ n3 + (1 : Int) ≤ (9223372036854775807 : Int)) ∧ I1 (n3 + 1) (List.set l4 (Int.toNat (List.getD l0 (n3.toNat) 0)) (List.getD l4
 (Int.toNat (List.getD l0 (n3.toNat) 0)) 0 + 1)) ∧ m2 (n3 + 1) (List.set l4 (Int.toNat (List.getD l0 (n3.toNat) 0)) (List.getD l4 (Int.toNat (List.getD l0 (n3.toNat) 0)) 0 + 1)) < m2 n3 l4) ∧ (¬n3 < (l0.length : Int) → l4 = countsL l0)
theorem v_s_l3Counts : V_s_l3Counts := by
  unfold V_s_l3Counts
  intro l hv
  have hl := LV_len hv
  refine ⟨rfl, by omega, by omega, ?_⟩
  refine ⟨fun i o => 0 ≤ i ∧ i ≤ l.length ∧ o = countsL (l.take i.toNat), fun i o => (l.length - i).toNat, ?_, ?_⟩ <;> dsimp only
  · simp [countsL, cnt]
  rintro i o ⟨h0, h1, rfl⟩
  refine ⟨fun hlt => ?_, fun hge => by rw [take_ge hge]⟩
  have hs := LV_at hv h0 hlt
  have hb := countsL_bd (l.take i.toNat) hs.1 hs.2
  have ht := len_take h0 h1
  have hc := countsL_snoc (l.take i.toNat) hs.1 hs.2
  rw [← take_lt 0 h0 hlt] at hc
  simp only [countsL_len]
  exact ⟨h0, hlt, h0, hlt, by omega, by omega, by omega, by omega, by omega, by omega, by omega, by omega, ⟨by omega, by omega, hc⟩, by omega⟩
def V_i_CountsValid : Prop :=
  ∀ (l0 : List Int), (l0.length : Int) ≤ 1099511627776 → ((l0.length : Int) = 8 → (l0.length : Int) ≤ 1099511627776 ∧ (true = allIn 0 999 l0 → true = cntOk l0) ∧ (false = allIn 0 999 l0 → false = cntOk l0)) ∧ (¬(l0.length : Int) = 8 → false =
 cntOk l0)
theorem v_i_CountsValid : V_i_CountsValid := by
  unfold V_i_CountsValid
  intro l hz
  unfold cntOk
  repeat' (first | apply And.intro | (rintro _ _ _ ⟨rfl, rfl, _, _⟩) | (rintro _ _ _ ⟨rfl, _, _, _⟩) | (rintro _ _ _ _ ⟨rfl, _, _, _⟩) | (rintro _ _ ⟨rfl, _⟩) | intro _)
  all_goals try (first | omega | with_reducible rfl | with_reducible assumption | (simp only [List.length_append, List.length_take, List.length_drop, List.length_set, List.length_cons, List.length_nil, List.length_replicate, Int.toNat_natCast] <;> omega) | (simp <;> omega))
  all_goals grind
def V_s_CountsValid : Prop :=
  ∀ (l0 : List Int), (l0.length : Int) ≤ 1099511627776 → ∃ (I1 : Int → Prop), ∃ (m2 : Int → Nat), I1 0 ∧ ∀ (n3 : Int), I1 n3 → (n3 < (l0.length : Int) → 0 ≤ n3 ∧ n3 < (l0.length : Int) ∧ True ∧ (true = decide (0 ≤ List.getD l0 (n3.toNat) 0 ∧
 List.getD l0 (n3.toNat) (0 : Int) ≤ 999) → (-9223372036854775808 ≤ n3 + 1 ∧ n3 + (1 : Int) ≤ (9223372036854775807 : Int)) ∧ I1 (n3 + 1) ∧ m2 (n3 + 1) < m2 n3) ∧ (false = decide (0 ≤ List.getD l0 (n3.toNat) 0 ∧ List.getD l0 (n3.toNat) (0 :
 Int) ≤ 999) → false = cntOk l0)) ∧ (¬n3 < (l0.length : Int) → ((l0.length : Int) = 8 → true = cntOk l0) ∧ (¬(l0.length : Int) = 8 → false = cntOk l0))
theorem v_s_CountsValid : V_s_CountsValid := by
  unfold V_s_CountsValid
  intro l hz
  refine ⟨fun i => 0 ≤ i ∧ i ≤ l.length ∧ allIn 0 999 (l.drop i.toNat) = allIn 0 999 l, fun i => (l.length - i).toNat, ?_, ?_⟩ <;> dsimp only
  · simp
  rintro i ⟨h0, h1, h2⟩
  refine ⟨fun hlt => ?_, fun hge => ?_⟩
  · rw [drop_lt 0 h0 hlt, allIn] at h2
    grind [cntOk]
  · rw [drop_ge hge, allIn] at h2
    grind [cntOk]
def V_i_total : Prop :=
  ∀ (l0 : List Int), (l0.length : Int) ≤ 1000 ∧ allIn (-1000000) 1000000 l0 = true → ∃ (I1 : Int → Int → Prop), ∃ (m2 : Int → Int → Nat), I1 0 0 ∧ ∀ (n3 n4 : Int), I1 n3 n4 → (n4 < (l0.length : Int) → 0 ≤ n4 ∧ n4 < (l0.length : Int) ∧
 (-9223372036854775808 ≤ n3 + List.getD l0 (n4.toNat) 0 ∧ n3 + List.getD l0 (n4.toNat) (0 : Int) ≤ (9223372036854775807 : Int)) ∧ (-9223372036854775808 ≤ n4 + 1 ∧ n4 + (1 : Int) ≤ (9223372036854775807 : Int)) ∧ I1 (n3 + List.getD l0
 (n4.toNat) 0) (n4 + 1) ∧ m2 (n3 + List.getD l0 (n4.toNat) 0) (n4 + 1) < m2 n3 n4) ∧ (¬n4 < (l0.length : Int) → n3 = sumL l0)
theorem v_i_total : V_i_total := by
  unfold V_i_total
  rintro l ⟨hl, ha⟩
  refine ⟨fun n i => 0 ≤ i ∧ i ≤ l.length ∧ n + sumL (l.drop i.toNat) = sumL l ∧ -1000000 * i ≤ n ∧ n ≤ 1000000 * i, fun n i => (l.length - i).toNat, ?_, ?_⟩ <;> dsimp only
  · simp
  rintro n i ⟨h0, h1, h2, h3, h4⟩
  refine ⟨fun hlt => ?_, fun hge => by rw [sumL_end hge] at h2; omega⟩
  rw [sumL_step h0 hlt] at h2
  have hx : -1000000 ≤ l.getD i.toNat 0 ∧ l.getD i.toNat 0 ≤ 1000000 := by
    have : i.toNat < l.length := by omega
    exact allIn_iff.1 ha _ (by simp [List.getD_eq_getElem?_getD, this])
  generalize l.getD i.toNat 0 = x at *
  exact ⟨h0, hlt, by omega, by omega, ⟨by omega, by omega, by omega, by omega, by omega⟩, by omega⟩
def V_s_l3Sum : Prop :=
  ∀ (l0 : List Int), (l0.length : Int) ≤ 1000 ∧ allIn (-1000000) 1000000 l0 = true → ∃ (I1 : Int → Int → Prop), ∃ (m2 : Int → Int → Nat), I1 0 0 ∧ ∀ (n3 n4 : Int), I1 n3 n4 → (n4 < (l0.length : Int) → 0 ≤ n4 ∧ n4 < (l0.length : Int) ∧
 (-9223372036854775808 ≤ n3 + List.getD l0 (n4.toNat) 0 ∧ n3 + List.getD l0 (n4.toNat) (0 : Int) ≤ (9223372036854775807 : Int)) ∧ (-9223372036854775808 ≤ n4 + 1 ∧ n4 + (1 : Int) ≤ (9223372036854775807 : Int)) ∧ I1 (n3 + List.getD l0
 (n4.toNat) 0) (n4 + 1) ∧ m2 (n3 + List.getD l0 (n4.toNat) 0) (n4 + 1) < m2 n3 n4) ∧ (¬n4 < (l0.length : Int) → n3 = sumL l0)
theorem v_s_l3Sum : V_s_l3Sum := by
  unfold V_s_l3Sum
  rintro l ⟨hl, ha⟩
  refine ⟨fun n i => 0 ≤ i ∧ i ≤ l.length ∧ n + sumL (l.drop i.toNat) = sumL l ∧ -1000000 * i ≤ n ∧ n ≤ 1000000 * i, fun n i => (l.length - i).toNat, ?_, ?_⟩ <;> dsimp only
  · simp
  rintro n i ⟨h0, h1, h2, h3, h4⟩
  refine ⟨fun hlt => ?_, fun hge => by rw [sumL_end hge] at h2; omega⟩
  rw [sumL_step h0 hlt] at h2
  have hx : -1000000 ≤ l.getD i.toNat 0 ∧ l.getD i.toNat 0 ≤ 1000000 := by
    have : i.toNat < l.length := by omega
    exact allIn_iff.1 ha _ (by simp [List.getD_eq_getElem?_getD, this])
  generalize l.getD i.toNat 0 = x at *
  exact ⟨h0, hlt, by omega, by omega, ⟨by omega, by omega, by omega, by omega, by omega⟩, by omega⟩
end Go.Proofs.Ytkkgpcbkkahieaa
