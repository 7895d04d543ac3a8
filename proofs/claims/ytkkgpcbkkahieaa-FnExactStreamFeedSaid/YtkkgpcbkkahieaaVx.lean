/-
  The conditions of functions, proved: x_exact.
-/
import Derived.Test.YtkkgpcbkkahieaaM
set_option linter.unusedVariables false
set_option linter.unusedSimpArgs false
open Go Go.Ax Go.Mx
namespace Go.Proofs.Ytkkgpcbkkahieaa
def V_l_toStream : Prop :=
  ∀ (l0 l1 : List Int), ((l0.length : Int) ≤ 1099511627776 ∧ (l1.length : Int) ≤ 1099511627776 → (l0.length : Int) ≤ 1099511627776 ∧ ∀ (l2 : List Int), l2 = l0 → (l1.length : Int) ≤ 1099511627776 ∧ ∀ (l3 : List Int), l3 = l1 → l2 = l0 ∧ l3 =
 l1 ∧ true = true) ∧ ((l0.length : Int) ≤ 1099511627776 ∧ (l1.length : Int) ≤ 1099511627776 → (l0.length : Int) ≤ 1099511627776 ∧ ∀ (l4 : List Int), l4 = l0 → (l1.length : Int) ≤ 1099511627776 ∧ ∀ (l5 : List Int), l5 = l1 → l4 = l0 ∧ l5 = l1
 ∧ false = false)
theorem v_l_toStream : V_l_toStream := by
  unfold V_l_toStream
  intro w t
  refine ⟨?_, ?_⟩
  all_goals
    rintro ⟨h1, h2⟩
    exact ⟨h1, fun x hx => ⟨h2, fun y hy => ⟨hx, hy, rfl⟩⟩⟩
def V_l_szStream : Prop :=
  ∀ (l0 l1 : List Int), (∀ (n2 : Int), (l0.length : Int) ≤ (9223372036854775807 : Int) ∧ (l1.length : Int) ≤ (9223372036854775807 : Int) ∧ 0 ≤ n2 ∧ n2 ≤ 1048576 → ((l0.length : Int) ≤ (9223372036854775807 : Int) ∧ 0 ≤ n2 ∧ n2 ≤
 1000000000000000000) ∧ ∀ (n3 : Int), (n3 = if n2 - (l0.length : Int) < 0 then -1 else n2 - (l0.length : Int)) → (n3 < 0 → -1 ≤ n2 ∧ ((0 : Int) ≤ -1 → (l0.length : Int) + (l1.length : Int) ≤ n2)) ∧ (¬n3 < 0 → ((l1.length : Int) ≤
 (9223372036854775807 : Int) ∧ 0 ≤ n3 ∧ n3 ≤ 1000000000000000000) ∧ ∀ (n4 : Int), (n4 = if n3 - (l1.length : Int) < 0 then -1 else n3 - (l1.length : Int)) → (n4 < 0 → -1 ≤ n2 ∧ ((0 : Int) ≤ -1 → (l0.length : Int) + (l1.length : Int) ≤ n2)) ∧
 (¬n4 < 0 → n4 ≤ n2 ∧ (0 ≤ n4 → (l0.length : Int) + (l1.length : Int) ≤ n2)))) ∧ ∀ (n5 : Int), (l0.length : Int) ≤ (9223372036854775807 : Int) ∧ (l1.length : Int) ≤ (9223372036854775807 : Int) ∧ 0 ≤ n5 ∧ n5 ≤ 1048576 → ((l0.length : Int) ≤
 (9223372036854775807 : Int) ∧ 0 ≤ n5 ∧ n5 ≤ 1000000000000000000) ∧ ∀ (n6 : Int), (n6 = if n5 - (l0.length : Int) < 0 then -1 else n5 - (l0.length : Int)) → (n6 < 0 → -1 ≤ n5 ∧ ((0 : Int) ≤ -1 → (l0.length : Int) + (l1.length : Int) ≤ n5)) ∧
 (¬n6 < 0 → ((l1.length : Int) ≤ (9223372036854775807 : Int) ∧ 0 ≤ n6 ∧ n6 ≤ 1000000000000000000) ∧ ∀ (n7 : Int), (n7 = if n6 - (l1.length : Int) < 0 then -1 else n6 - (l1.length : Int)) → (n7 < 0 → -1 ≤ n5 ∧ ((0 : Int) ≤ -1 → (l0.length :
 Int) + (l1.length : Int) ≤ n5)) ∧ (¬n7 < 0 → n7 ≤ n5 ∧ (0 ≤ n7 → (l0.length : Int) + (l1.length : Int) ≤ n5)))
theorem v_l_szStream : V_l_szStream := by
  unfold V_l_szStream
  intro w t
  refine ⟨?_, ?_⟩
  all_goals
    rintro n ⟨h1, h2, h3, h4⟩
    refine ⟨by omega, fun x hx => ⟨fun h => by omega, fun h => ⟨by split at hx <;> omega, fun y hy => ⟨fun h => by omega, fun h => by split at hx <;> split at hy <;> omega⟩⟩⟩⟩
def V_l_eqStream : Prop :=
  ∀ (l0 l1 : List Int), (∀ (l2 l3 : List Int), ((l0.length : Int) ≤ 1099511627776 ∧ (l1.length : Int) ≤ 1099511627776 ∧ (l2.length : Int) ≤ 1099511627776 ∧ (l3.length : Int) ≤ 1099511627776 → ((l0.length : Int) ≤ 1099511627776 ∧ (l2.length :
 Int) ≤ 1099511627776) ∧ (true = decide (l0 = l2) → ((l1.length : Int) ≤ 1099511627776 ∧ (l3.length : Int) ≤ 1099511627776) ∧ (true = decide (l1 = l3) → true = decide ((l0, l1, true) = (l2, l3, true))) ∧ (false = decide (l1 = l3) → false =
 decide ((l0, l1, true) = (l2, l3, true)))) ∧ (false = decide (l0 = l2) → false = decide ((l0, l1, true) = (l2, l3, true)))) ∧ ((l0.length : Int) ≤ 1099511627776 ∧ (l1.length : Int) ≤ 1099511627776 ∧ (l2.length : Int) ≤ 1099511627776 ∧
 (l3.length : Int) ≤ 1099511627776 → ((l0.length : Int) ≤ 1099511627776 ∧ (l2.length : Int) ≤ 1099511627776) ∧ (true = decide (l0 = l2) → ((l1.length : Int) ≤ 1099511627776 ∧ (l3.length : Int) ≤ 1099511627776) ∧ (true = decide (l1 = l3) →
 false = decide ((l0, l1, true) = (l2, l3, false))) ∧ (false = decide (l1 = l3) → false = decide ((l0, l1, true) = (l2, l3, false)))) ∧ (false = decide (l0 = l2) → false = decide ((l0, l1, true) = (l2, l3, false))))) ∧ ∀ (l4 l5 : List Int),
 ((l0.length : Int) ≤ 1099511627776 ∧ (l1.length : Int) ≤ 1099511627776 ∧ (l4.length : Int) ≤ 1099511627776 ∧ (l5.length : Int) ≤ 1099511627776 → ((l0.length : Int) ≤ 1099511627776 ∧ (l4.length : Int) ≤ 1099511627776) ∧ (true = decide (l0 =
 l4) → ((l1.length : Int) ≤ 1099511627776 ∧ (l5.length : Int) ≤ 1099511627776) ∧ (true = decide (l1 = l5) → false = decide ((l0, l1, false) = (l4, l5, true))) ∧ (false = decide (l1 = l5) → false = decide ((l0, l1, false) = (l4, l5, true)))) ∧
 (false = decide (l0 = l4) → false = decide ((l0, l1, false) = (l4, l5, true)))) ∧ ((l0.length : Int) ≤ 1099511627776 ∧ (l1.length : Int) ≤ 1099511627776 ∧ (l4.length : Int) ≤ 1099511627776 ∧ (l5.length : Int) ≤ 1099511627776 → ((l0.length :
 Int) ≤ 1099511627776 ∧ (l4.length : Int) ≤ 1099511627776) ∧ (true = decide (l0 = l4) → ((l1.length : Int) ≤ 1099511627776 ∧ (l5.length : Int) ≤ 1099511627776) ∧ (true = decide (l1 = l5) → true = decide ((l0, l1, false) = (l4, l5, false))) ∧
 (false = decide (l1 = l5) → false = decide ((l0, l1, false) = (l4, l5, false)))) ∧ (false = decide (l0 = l4) → false = decide ((l0, l1, false) = (l4, l5, false))))
theorem v_l_eqStream : V_l_eqStream := by
  unfold V_l_eqStream
  intro w t
  refine ⟨?_, ?_⟩
  all_goals
    intro w2 t2
    refine ⟨?_, ?_⟩
    all_goals
      rintro ⟨h1, h2, h3, h4⟩
      refine ⟨⟨h1, h3⟩, fun h => ⟨⟨h2, h4⟩, fun g => ?_, fun g => ?_⟩, fun h => ?_⟩
      all_goals
        first
        | (have h := of_decide_eq_true h.symm; have g := of_decide_eq_true g.symm; simp [h, g])
        | (have g := of_decide_eq_false g.symm; simp [g])
        | (have h := of_decide_eq_false h.symm; simp [h])
def V_l_heldStream : Prop :=
  ∀ (l0 l1 : List Int), (∀ (n2 : Int), (l0.length : Int) ≤ 1099511627776 ∧ (l1.length : Int) ≤ 1099511627776 ∧ 0 ≤ n2 ∧ n2 ≤ 1000000 → ((l0.length : Int) ≤ 1099511627776 ∧ 0 ≤ n2 ∧ n2 ≤ 1000000000000000) ∧ ∀ (n3 : Int), (n3 = if l0 = marks n2
 (l0.length) then n2 + (l0.length : Int) else -1) → (n3 < 0 → -1 = if l0 = marks n2 (l0.length) ∧ l1 = marks (n2 + (l0.length : Int)) (l1.length) then n2 + (l0.length : Int) + (l1.length : Int) else -1) ∧ (¬n3 < 0 → ((l1.length : Int) ≤
 1099511627776 ∧ 0 ≤ n3 ∧ n3 ≤ 1000000000000000) ∧ ∀ (n4 : Int), (n4 = if l1 = marks n3 (l1.length) then n3 + (l1.length : Int) else -1) → (n4 < 0 → -1 = if l0 = marks n2 (l0.length) ∧ l1 = marks (n2 + (l0.length : Int)) (l1.length) then n2 +
 (l0.length : Int) + (l1.length : Int) else -1) ∧ (¬n4 < 0 → n4 = if l0 = marks n2 (l0.length) ∧ l1 = marks (n2 + (l0.length : Int)) (l1.length) then n2 + (l0.length : Int) + (l1.length : Int) else -1))) ∧ ∀ (n5 : Int), (l0.length : Int) ≤
 1099511627776 ∧ (l1.length : Int) ≤ 1099511627776 ∧ 0 ≤ n5 ∧ n5 ≤ 1000000 → ((l0.length : Int) ≤ 1099511627776 ∧ 0 ≤ n5 ∧ n5 ≤ 1000000000000000) ∧ ∀ (n6 : Int), (n6 = if l0 = marks n5 (l0.length) then n5 + (l0.length : Int) else -1) → (n6 <
 0 → -1 = if l0 = marks n5 (l0.length) ∧ l1 = marks (n5 + (l0.length : Int)) (l1.length) then n5 + (l0.length : Int) + (l1.length : Int) else -1) ∧ (¬n6 < 0 → ((l1.length : Int) ≤ 1099511627776 ∧ 0 ≤ n6 ∧ n6 ≤ 1000000000000000) ∧ ∀ (n7 :
 Int), (n7 = if l1 = marks n6 (l1.length) then n6 + (l1.length : Int) else -1) → (n7 < 0 → -1 = if l0 = marks n5 (l0.length) ∧ l1 = marks (n5 + (l0.length : Int)) (l1.length) then n5 + (l0.length : Int) + (l1.length : Int) else -1) ∧ (¬n7 < 0
 → n7 = if l0 = marks n5 (l0.length) ∧ l1 = marks (n5 + (l0.length : Int)) (l1.length) then n5 + (l0.length : Int) + (l1.length : Int) else -1))
theorem v_l_heldStream : V_l_heldStream := by
  unfold V_l_heldStream
  intro w t
  refine ⟨?_, ?_⟩
  all_goals
    rintro k ⟨h1, h2, h3, h4⟩
    refine ⟨by omega, fun x hx => ?_⟩
    by_cases hw : w = marks k w.length
    · rw [if_pos hw] at hx
      subst hx
      refine ⟨fun h => by omega, fun h => ⟨by omega, fun y hy => ?_⟩⟩
      by_cases ht : t = marks (k + w.length) t.length
      · rw [if_pos ht] at hy
        rw [if_pos ⟨hw, ht⟩]
        exact ⟨fun h => by omega, fun h => hy⟩
      · rw [if_neg ht] at hy
        rw [if_neg (fun q => ht q.2)]
        exact ⟨fun h => rfl, fun h => hy⟩
    · rw [if_neg hw] at hx
      rw [if_neg (fun q => hw q.1)]
      exact ⟨fun h => rfl, fun h => by omega⟩
def V_l_markStream : Prop :=
  ∀ (l0 l1 : List Int), (∀ (n2 : Int), 0 ≤ n2 ∧ n2 ≤ 1000000 ∧ (l0.length : Int) ≤ 1099511627776 ∧ (l1.length : Int) ≤ 1099511627776 → ((l0.length : Int) ≤ 1099511627776 ∧ 0 ≤ n2 ∧ n2 ≤ 1000000000000000) ∧ ∀ (l3 : List Int) (n4 : Int), n4 = n2
 + (l0.length : Int) ∧ l3 = marks n2 (l0.length) → ((l1.length : Int) ≤ 1099511627776 ∧ 0 ≤ n4 ∧ n4 ≤ 1000000000000000) ∧ ∀ (l5 : List Int) (n6 : Int), n6 = n4 + (l1.length : Int) ∧ l5 = marks n4 (l1.length) → l3 = markL n2 (l0.length) ∧ l5 =
 markL (n2 + (l0.length : Int)) (l1.length) ∧ n6 = n2 + (l0.length : Int) + (l1.length : Int)) ∧ ∀ (n7 : Int), 0 ≤ n7 ∧ n7 ≤ 1000000 ∧ (l0.length : Int) ≤ 1099511627776 ∧ (l1.length : Int) ≤ 1099511627776 → ((l0.length : Int) ≤ 1099511627776
 ∧ 0 ≤ n7 ∧ n7 ≤ 1000000000000000) ∧ ∀ (l8 : List Int) (n9 : Int), n9 = n7 + (l0.length : Int) ∧ l8 = marks n7 (l0.length) → ((l1.length : Int) ≤ 1099511627776 ∧ 0 ≤ n9 ∧ n9 ≤ 1000000000000000) ∧ ∀ (l10 : List Int) (n11 : Int), n11 = n9 +
 (l1.length : Int) ∧ l10 = marks n9 (l1.length) → l8 = markL n7 (l0.length) ∧ l10 = markL (n7 + (l0.length : Int)) (l1.length) ∧ n11 = n7 + (l0.length : Int) + (l1.length : Int)
theorem v_l_markStream : V_l_markStream := by
  unfold V_l_markStream
  intro w t
  refine ⟨?_, ?_⟩
  all_goals
    rintro k ⟨h1, h2, h3, h4⟩
    refine ⟨by omega, ?_⟩
    rintro x n ⟨rfl, rfl⟩
    refine ⟨by omega, ?_⟩
    rintro y m ⟨rfl, rfl⟩
    exact ⟨(markL_eq _ _).symm, (markL_eq _ _).symm, rfl⟩
end Go.Proofs.Ytkkgpcbkkahieaa
