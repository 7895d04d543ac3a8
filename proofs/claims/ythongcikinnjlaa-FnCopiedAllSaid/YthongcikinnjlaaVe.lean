/-
  The conditions of functions, proved: e_apply.
-/
import Derived.Test.YthongcikinnjlaaM
set_option linter.unusedVariables false
set_option linter.unusedSimpArgs false
open Go Go.Ax Go.Mx
namespace Go.Proofs.Ythongcikinnjlaa
def V_s_l41Piece : Prop :=
  ∀ (l0 : List Int) (n1 n2 n3 : Int), (↑(List.length l0) : Int) ≤ 1099511627776 → (n3 = 0 → (n2 = 0 → True ∧ (true = decide (0 ≤ n1 ∧ n1 ≤ 7) → true = pieceOk (↑(List.length l0) : Int) (n1, n2, n3)) ∧ (false = decide (0 ≤ n1 ∧ n1 ≤ 7) → false
    = pieceOk (↑(List.length l0) : Int) (n1, n2, n3))) ∧ (¬n2 = 0 → false = pieceOk (↑(List.length l0) : Int) (n1, n2, n3))) ∧ (¬n3 = 0 → (n1 = 0 → (-9223372036854775808 ≤ (↑(List.length l0) : Int) - 1 ∧ (↑(List.length l0) : Int) - (1 : Int) ≤ 9223372036854775807) ∧ True ∧ (true = decide (0 ≤ n2 ∧ n2 ≤ (↑(List.length l0) : Int) - 1) → (-9223372036854775808 ≤ (↑(List.length l0) : Int) - n2 ∧ (↑(List.length l0) : Int) - n2 ≤ 9223372036854775807) ∧ True ∧ (true = decide (2 ≤ n3 ∧ n3
    ≤ (↑(List.length l0) : Int) - n2) → true = pieceOk (↑(List.length l0) : Int) (n1, n2, n3)) ∧ (false = decide (2 ≤ n3 ∧ n3 ≤ (↑(List.length l0) : Int) - n2) → false = pieceOk (↑(List.length l0) : Int) (n1, n2, n3))) ∧ (false = decide (0 ≤ n2
    ∧ n2 ≤ (↑(List.length l0) : Int) - 1) → false = pieceOk (↑(List.length l0) : Int) (n1, n2, n3))) ∧ (¬n1 = 0 → false = pieceOk (↑(List.length l0) : Int) (n1, n2, n3)))
theorem v_s_l41Piece : V_s_l41Piece := by
  unfold V_s_l41Piece
  intro o s f m hz
  simp only [pieceOk]
  grind
def V_s_DeltaApply : Prop :=
  ∀ (l0 : List Int) (l1 : List (Int × Int × Int)), (↑(List.length l0) : Int) ≤ 1099511627776 ∧ (↑(List.length l1) : Int) ≤ 1099511627776 → (↑(List.length l0) : Int) ≤ 1099511627776 ∧ (true = LV l0 → ∃ (I2 : List Int → Int → Prop), ∃ (m3 : List
    Int → Int → Nat), I2 [] 0 ∧ ∀ (l4 : List Int) (n5 : Int), I2 l4 n5 → (n5 < (↑(List.length l1) : Int) → 0 ≤ n5 ∧ n5 < (↑(List.length l1) : Int) ∧ (↑(List.length l0) : Int) ≤ 1099511627776 ∧ (true = pieceOk (↑(List.length l0) : Int) (Prod.fst
    (List.getD l1 (Int.toNat n5) (0, 0, 0)), Prod.fst (Prod.snd (List.getD l1 (Int.toNat n5) (0, 0, 0))), Prod.snd (Prod.snd (List.getD l1 (Int.toNat n5) (0, 0, 0)))) → (-9223372036854775808 ≤ (↑(List.length l4) : Int) + max (Prod.snd (Prod.snd
    (List.getD l1 (Int.toNat n5) (0, 0, 0)))) 1 ∧ (↑(List.length l4) : Int) + max (Prod.snd (Prod.snd (List.getD l1 (Int.toNat n5) (0, 0, 0)))) (1 : Int) ≤ 9223372036854775807) ∧ (40 < (↑(List.length l4) : Int) + max (Prod.snd (Prod.snd (List.getD l1
    (Int.toNat n5) (0, 0, 0)))) 1 → false = Option.isSome (deltaApply l0 l1) ∧ [] = Option.getD (deltaApply l0 l1) []) ∧ (¬40 < (↑(List.length l4) : Int) + max (Prod.snd (Prod.snd (List.getD l1 (Int.toNat n5) (0, 0, 0)))) 1 → (Prod.snd (Prod.snd
    (List.getD l1 (Int.toNat n5) (0, 0, 0))) = 0 → (↑(List.length l4 + List.length [Prod.fst (List.getD l1 (Int.toNat n5) (0, 0, 0))]) : Int) ≤ 1099511627776 ∧ (-9223372036854775808 ≤ Prod.fst (Prod.snd (List.getD l1 (Int.toNat n5) (0, 0, 0))) +
    Prod.snd (Prod.snd (List.getD l1 (Int.toNat n5) (0, 0, 0))) ∧ Prod.fst (Prod.snd (List.getD l1 (Int.toNat n5) (0, 0, 0))) + Prod.snd (Prod.snd (List.getD l1 (Int.toNat n5) (0, 0, 0))) ≤ 9223372036854775807) ∧ 0 ≤ Prod.fst (Prod.snd
    (List.getD l1 (Int.toNat n5) (0, 0, 0))) ∧ Prod.fst (Prod.snd (List.getD l1 (Int.toNat n5) (0, 0, 0))) ≤ Prod.fst (Prod.snd (List.getD l1 (Int.toNat n5) (0, 0, 0))) + Prod.snd (Prod.snd (List.getD l1 (Int.toNat n5) (0, 0, 0))) ∧ Prod.fst
    (Prod.snd (List.getD l1 (Int.toNat n5) (0, 0, 0))) + Prod.snd (Prod.snd (List.getD l1 (Int.toNat n5) (0, 0, 0))) ≤ (↑(List.length l0) : Int) ∧ (↑(List.length (l4 ++ [Prod.fst (List.getD l1 (Int.toNat n5) (0, 0, 0))]) + List.length (List.drop
    (Int.toNat (Prod.fst (Prod.snd (List.getD l1 (Int.toNat n5) (0, 0, 0))))) (List.take (Int.toNat (Prod.fst (Prod.snd (List.getD l1 (Int.toNat n5) (0, 0, 0))) + Prod.snd (Prod.snd (List.getD l1 (Int.toNat n5) (0, 0, 0))))) l0))) : Int) ≤
    1099511627776 ∧ (-9223372036854775808 ≤ n5 + 1 ∧ n5 + (1 : Int) ≤ 9223372036854775807) ∧ I2 (l4 ++ [Prod.fst (List.getD l1 (Int.toNat n5) (0, 0, 0))] ++ List.drop (Int.toNat (Prod.fst (Prod.snd (List.getD l1 (Int.toNat n5) (0, 0, 0))))) (List.take
    (Int.toNat (Prod.fst (Prod.snd (List.getD l1 (Int.toNat n5) (0, 0, 0))) + Prod.snd (Prod.snd (List.getD l1 (Int.toNat n5) (0, 0, 0))))) l0)) (n5 + 1) ∧ m3 (l4 ++ [Prod.fst (List.getD l1 (Int.toNat n5) (0, 0, 0))] ++ List.drop (Int.toNat
    (Prod.fst (Prod.snd (List.getD l1 (Int.toNat n5) (0, 0, 0))))) (List.take (Int.toNat (Prod.fst (Prod.snd (List.getD l1 (Int.toNat n5) (0, 0, 0))) + Prod.snd (Prod.snd (List.getD l1 (Int.toNat n5) (0, 0, 0))))) l0)) (n5 + 1) < m3 l4 n5) ∧
    (¬Prod.snd (Prod.snd (List.getD l1 (Int.toNat n5) (0, 0, 0))) = 0 → (-9223372036854775808 ≤ Prod.fst (Prod.snd (List.getD l1 (Int.toNat n5) (0, 0, 0))) + Prod.snd (Prod.snd (List.getD l1 (Int.toNat n5) (0, 0, 0))) ∧ Prod.fst (Prod.snd
    (List.getD l1 (Int.toNat n5) (0, 0, 0))) + Prod.snd (Prod.snd (List.getD l1 (Int.toNat n5) (0, 0, 0))) ≤ 9223372036854775807) ∧ 0 ≤ Prod.fst (Prod.snd (List.getD l1 (Int.toNat n5) (0, 0, 0))) ∧ Prod.fst (Prod.snd (List.getD l1 (Int.toNat n5)
    (0, 0, 0))) ≤ Prod.fst (Prod.snd (List.getD l1 (Int.toNat n5) (0, 0, 0))) + Prod.snd (Prod.snd (List.getD l1 (Int.toNat n5) (0, 0, 0))) ∧ Prod.fst (Prod.snd (List.getD l1 (Int.toNat n5) (0, 0, 0))) + Prod.snd (Prod.snd (List.getD l1
    (Int.toNat n5) (0, 0, 0))) ≤ (↑(List.length l0) : Int) ∧ (↑(List.length l4 + List.length (List.drop (Int.toNat (Prod.fst (Prod.snd (List.getD l1 (Int.toNat n5) (0, 0, 0))))) (List.take (Int.toNat (Prod.fst (Prod.snd (List.getD l1 (Int.toNat
    n5) (0, 0, 0))) + Prod.snd (Prod.snd (List.getD l1 (Int.toNat n5) (0, 0, 0))))) l0))) : Int) ≤ 1099511627776 ∧ (-9223372036854775808 ≤ n5 + 1 ∧ n5 + (1 : Int) ≤ 9223372036854775807) ∧ I2 (l4 ++ List.drop (Int.toNat (Prod.fst (Prod.snd (List.getD l1
    (Int.toNat n5) (0, 0, 0))))) (List.take (Int.toNat (Prod.fst (Prod.snd (List.getD l1 (Int.toNat n5) (0, 0, 0))) + Prod.snd (Prod.snd (List.getD l1 (Int.toNat n5) (0, 0, 0))))) l0)) (n5 + 1) ∧ m3 (l4 ++ List.drop (Int.toNat (Prod.fst
    (Prod.snd (List.getD l1 (Int.toNat n5) (0, 0, 0))))) (List.take (Int.toNat (Prod.fst (Prod.snd (List.getD l1 (Int.toNat n5) (0, 0, 0))) + Prod.snd (Prod.snd (List.getD l1 (Int.toNat n5) (0, 0, 0))))) l0)) (n5 + 1) < m3 l4 n5))) ∧ (false =
    pieceOk (↑(List.length l0) : Int) (Prod.fst (List.getD l1 (Int.toNat n5) (0, 0, 0)), Prod.fst (Prod.snd (List.getD l1 (Int.toNat n5) (0, 0, 0))), Prod.snd (Prod.snd (List.getD l1 (Int.toNat n5) (0, 0, 0)))) → false = Option.isSome
    (deltaApply l0 l1) ∧ [] = Option.getD (deltaApply l0 l1) [])) ∧ (¬n5 < (↑(List.length l1) : Int) → true = Option.isSome (deltaApply l0 l1) ∧ l4 = Option.getD (deltaApply l0 l1) [])) ∧ (false = LV l0 → false = Option.isSome (deltaApply l0 l1)
    ∧ [] = Option.getD (deltaApply l0 l1) [])
theorem v_s_DeltaApply : V_s_DeltaApply := by
  unfold V_s_DeltaApply
  rintro o ps ⟨hz, hz'⟩
  refine ⟨hz, fun hv => ?_, fun hv => ?_⟩
  · have hD : deltaApply o ps = applyFrom o ps [] := by unfold deltaApply; rw [if_pos hv.symm]
    rw [hD]
    have hl := LV_len hv.symm
    clear hv hD hz
    refine ⟨fun out i => 0 ≤ i ∧ i ≤ ps.length ∧ (out.length : Int) ≤ 40 ∧ applyFrom o (ps.drop i.toNat) out = applyFrom o ps [], fun out i => (ps.length - i).toNat, ?_, ?_⟩ <;> dsimp only
    · simp
    rintro out i ⟨h0, h1, h2, h3⟩
    refine ⟨fun hlt => ?_, fun hge => ?_⟩
    · rw [apply_step h0 hlt] at h3
      generalize List.getD ps i.toNat (0, 0, 0) = x at *
      obtain ⟨s, f, m⟩ := x
      generalize applyFrom o ps [] = R at *
      dsimp only at *
      have hn : pieceOk o.length (s, f, m) = false → R = none := fun h => by rw [put_none h] at h3; exact h3.symm
      have hs : pieceOk o.length (s, f, m) = true → m = 0 → f = 0 ∧ (if 40 < (out ++ [s]).length then none else applyFrom o (ps.drop (i + 1).toNat) (out ++ [s])) = R := fun h h' => by
        obtain ⟨q1, q2, _⟩ := put_sym (a := out) h h'
        rw [q1] at h3; exact ⟨q2, h3⟩
      have hc : pieceOk o.length (s, f, m) = true → ¬ m = 0 → 0 ≤ f ∧ 2 ≤ m ∧ f + m ≤ (o.length : Int) ∧ (if 40 < (out ++ (o.take (f + m).toNat).drop f.toNat).length then none else applyFrom o (ps.drop (i + 1).toNat) (out ++ (o.take (f + m).toNat).drop f.toNat)) = R := fun h h' => by
        obtain ⟨q1, _, q2, q3, q4⟩ := put_copy (a := out) h h'
        rw [q1] at h3; exact ⟨q2, q3, q4, h3⟩
      clear h3
      simp only [List.length_append, List.length_cons, List.length_nil, List.length_drop, List.length_take] at hs hc ⊢
      refine ⟨h0, hlt, by omega, fun hp => ?_, fun hp => by rw [hn hp.symm]; simp⟩
      by_cases hm : m = 0
      · obtain ⟨rfl, hs'⟩ := hs hp.symm hm
        subst hm
        refine ⟨by omega, fun h4 => ?_, fun h4 => ⟨fun _ => ?_, fun h => absurd rfl h⟩⟩
        · rw [if_pos (by omega)] at hs'; rw [← hs']; simp
        · rw [if_neg (by omega)] at hs'
          refine ⟨by omega, by omega, by omega, by omega, by omega, by simp; omega, by omega, ⟨by omega, by omega, by simp; omega, ?_⟩, by omega⟩
          simpa using hs'
      · obtain ⟨q1, q2, q3, hc⟩ := hc hp.symm hm
        refine ⟨by omega, fun h4 => ?_, fun h4 => ⟨fun h => absurd h hm, fun _ => ?_⟩⟩
        · rw [if_pos (by omega)] at hc; rw [← hc]; simp
        · rw [if_neg (by omega)] at hc
          exact ⟨by omega, by omega, by omega, by omega, by omega, by omega, ⟨by omega, by omega, by omega, hc⟩, by omega⟩
    · rw [apply_end hge] at h3; rw [← h3]; simp
  · simp [deltaApply, ← hv]
def V_i_DeltaApply : Prop :=
  ∀ (l0 : List Int) (l1 : List (Int × Int × Int)), (↑(List.length l0) : Int) ≤ 1099511627776 ∧ (↑(List.length l1) : Int) ≤ 1099511627776 → (↑(List.length l0) : Int) ≤ 1099511627776 ∧ (true = LV l0 → ∃ (I2 : List Int → Int → Prop), ∃ (m3 : List
    Int → Int → Nat), I2 [] 0 ∧ ∀ (l4 : List Int) (n5 : Int), I2 l4 n5 → (n5 < (↑(List.length l1) : Int) → 0 ≤ n5 ∧ n5 < (↑(List.length l1) : Int) ∧ (Prod.fst (Prod.snd (List.getD l1 (Int.toNat n5) (0, 0, 0))) = 0 → (Prod.snd (Prod.snd
    (List.getD l1 (Int.toNat n5) (0, 0, 0))) = 0 → True ∧ (true = decide (0 ≤ Prod.fst (List.getD l1 (Int.toNat n5) (0, 0, 0)) ∧ Prod.fst (List.getD l1 (Int.toNat n5) (0, 0, 0)) ≤ 7) → (↑(List.length l4 + List.length [Prod.fst (List.getD l1
    (Int.toNat n5) (0, 0, 0))]) : Int) ≤ 1099511627776 ∧ (40 < (↑(List.length (l4 ++ [Prod.fst (List.getD l1 (Int.toNat n5) (0, 0, 0))])) : Int) → false = Option.isSome (deltaApply l0 l1) ∧ [] = Option.getD (deltaApply l0 l1) []) ∧ (¬40 <
    (↑(List.length (l4 ++ [Prod.fst (List.getD l1 (Int.toNat n5) (0, 0, 0))])) : Int) → (-9223372036854775808 ≤ n5 + 1 ∧ n5 + (1 : Int) ≤ 9223372036854775807) ∧ I2 (l4 ++ [Prod.fst (List.getD l1 (Int.toNat n5) (0, 0, 0))]) (n5 + 1) ∧ m3 (l4 ++ [Prod.fst
    (List.getD l1 (Int.toNat n5) (0, 0, 0))]) (n5 + 1) < m3 l4 n5)) ∧ (false = decide (0 ≤ Prod.fst (List.getD l1 (Int.toNat n5) (0, 0, 0)) ∧ Prod.fst (List.getD l1 (Int.toNat n5) (0, 0, 0)) ≤ 7) → (Prod.fst (List.getD l1 (Int.toNat n5) (0, 0,
    0)) = 0 → True ∧ (true = decide (0 ≤ Prod.fst (Prod.snd (List.getD l1 (Int.toNat n5) (0, 0, 0))) ∧ Prod.fst (Prod.snd (List.getD l1 (Int.toNat n5) (0, 0, 0))) ≤ (↑(List.length l0) : Int)) → (-9223372036854775808 ≤ (↑(List.length l0) : Int) -
    Prod.fst (Prod.snd (List.getD l1 (Int.toNat n5) (0, 0, 0))) ∧ (↑(List.length l0) : Int) - Prod.fst (Prod.snd (List.getD l1 (Int.toNat n5) (0, 0, 0))) ≤ 9223372036854775807) ∧ True ∧ (true = decide (2 ≤ Prod.snd (Prod.snd (List.getD l1
    (Int.toNat n5) (0, 0, 0))) ∧ Prod.snd (Prod.snd (List.getD l1 (Int.toNat n5) (0, 0, 0))) ≤ (↑(List.length l0) : Int) - Prod.fst (Prod.snd (List.getD l1 (Int.toNat n5) (0, 0, 0)))) → (-9223372036854775808 ≤ Prod.fst (Prod.snd (List.getD l1
    (Int.toNat n5) (0, 0, 0))) + Prod.snd (Prod.snd (List.getD l1 (Int.toNat n5) (0, 0, 0))) ∧ Prod.fst (Prod.snd (List.getD l1 (Int.toNat n5) (0, 0, 0))) + Prod.snd (Prod.snd (List.getD l1 (Int.toNat n5) (0, 0, 0))) ≤ 9223372036854775807) ∧ 0 ≤
    Prod.fst (Prod.snd (List.getD l1 (Int.toNat n5) (0, 0, 0))) ∧ Prod.fst (Prod.snd (List.getD l1 (Int.toNat n5) (0, 0, 0))) ≤ Prod.fst (Prod.snd (List.getD l1 (Int.toNat n5) (0, 0, 0))) + Prod.snd (Prod.snd (List.getD l1 (Int.toNat n5) (0, 0,
    0))) ∧ Prod.fst (Prod.snd (List.getD l1 (Int.toNat n5) (0, 0, 0))) + Prod.snd (Prod.snd (List.getD l1 (Int.toNat n5) (0, 0, 0))) ≤ (↑(List.length l0) : Int) ∧ (↑(List.length l4 + List.length (List.drop (Int.toNat (Prod.fst (Prod.snd
    (List.getD l1 (Int.toNat n5) (0, 0, 0))))) (List.take (Int.toNat (Prod.fst (Prod.snd (List.getD l1 (Int.toNat n5) (0, 0, 0))) + Prod.snd (Prod.snd (List.getD l1 (Int.toNat n5) (0, 0, 0))))) l0))) : Int) ≤ 1099511627776 ∧ (40 < (↑(List.length
    (l4 ++ List.drop (Int.toNat (Prod.fst (Prod.snd (List.getD l1 (Int.toNat n5) (0, 0, 0))))) (List.take (Int.toNat (Prod.fst (Prod.snd (List.getD l1 (Int.toNat n5) (0, 0, 0))) + Prod.snd (Prod.snd (List.getD l1 (Int.toNat n5) (0, 0, 0)))))
    l0))) : Int) → false = Option.isSome (deltaApply l0 l1) ∧ [] = Option.getD (deltaApply l0 l1) []) ∧ (¬40 < (↑(List.length (l4 ++ List.drop (Int.toNat (Prod.fst (Prod.snd (List.getD l1 (Int.toNat n5) (0, 0, 0))))) (List.take (Int.toNat
    (Prod.fst (Prod.snd (List.getD l1 (Int.toNat n5) (0, 0, 0))) + Prod.snd (Prod.snd (List.getD l1 (Int.toNat n5) (0, 0, 0))))) l0))) : Int) → (-9223372036854775808 ≤ n5 + 1 ∧ n5 + (1 : Int) ≤ 9223372036854775807) ∧ I2 (l4 ++ List.drop (Int.toNat
    (Prod.fst (Prod.snd (List.getD l1 (Int.toNat n5) (0, 0, 0))))) (List.take (Int.toNat (Prod.fst (Prod.snd (List.getD l1 (Int.toNat n5) (0, 0, 0))) + Prod.snd (Prod.snd (List.getD l1 (Int.toNat n5) (0, 0, 0))))) l0)) (n5 + 1) ∧ m3 (l4 ++
    List.drop (Int.toNat (Prod.fst (Prod.snd (List.getD l1 (Int.toNat n5) (0, 0, 0))))) (List.take (Int.toNat (Prod.fst (Prod.snd (List.getD l1 (Int.toNat n5) (0, 0, 0))) + Prod.snd (Prod.snd (List.getD l1 (Int.toNat n5) (0, 0, 0))))) l0)) (n5 +
    1) < m3 l4 n5)) ∧ (false = decide (2 ≤ Prod.snd (Prod.snd (List.getD l1 (Int.toNat n5) (0, 0, 0))) ∧ Prod.snd (Prod.snd (List.getD l1 (Int.toNat n5) (0, 0, 0))) ≤ (↑(List.length l0) : Int) - Prod.fst (Prod.snd (List.getD l1 (Int.toNat n5)
    (0, 0, 0)))) → false = Option.isSome (deltaApply l0 l1) ∧ [] = Option.getD (deltaApply l0 l1) [])) ∧ (false = decide (0 ≤ Prod.fst (Prod.snd (List.getD l1 (Int.toNat n5) (0, 0, 0))) ∧ Prod.fst (Prod.snd (List.getD l1 (Int.toNat n5) (0, 0,
    0))) ≤ (↑(List.length l0) : Int)) → false = Option.isSome (deltaApply l0 l1) ∧ [] = Option.getD (deltaApply l0 l1) [])) ∧ (¬Prod.fst (List.getD l1 (Int.toNat n5) (0, 0, 0)) = 0 → false = Option.isSome (deltaApply l0 l1) ∧ [] = Option.getD
    (deltaApply l0 l1) []))) ∧ (¬Prod.snd (Prod.snd (List.getD l1 (Int.toNat n5) (0, 0, 0))) = 0 → (Prod.fst (List.getD l1 (Int.toNat n5) (0, 0, 0)) = 0 → True ∧ (true = decide (0 ≤ Prod.fst (Prod.snd (List.getD l1 (Int.toNat n5) (0, 0, 0))) ∧
    Prod.fst (Prod.snd (List.getD l1 (Int.toNat n5) (0, 0, 0))) ≤ (↑(List.length l0) : Int)) → (-9223372036854775808 ≤ (↑(List.length l0) : Int) - Prod.fst (Prod.snd (List.getD l1 (Int.toNat n5) (0, 0, 0))) ∧ (↑(List.length l0) : Int) - Prod.fst
    (Prod.snd (List.getD l1 (Int.toNat n5) (0, 0, 0))) ≤ 9223372036854775807) ∧ True ∧ (true = decide (2 ≤ Prod.snd (Prod.snd (List.getD l1 (Int.toNat n5) (0, 0, 0))) ∧ Prod.snd (Prod.snd (List.getD l1 (Int.toNat n5) (0, 0, 0))) ≤ (↑(List.length
    l0) : Int) - Prod.fst (Prod.snd (List.getD l1 (Int.toNat n5) (0, 0, 0)))) → (-9223372036854775808 ≤ Prod.fst (Prod.snd (List.getD l1 (Int.toNat n5) (0, 0, 0))) + Prod.snd (Prod.snd (List.getD l1 (Int.toNat n5) (0, 0, 0))) ∧ Prod.fst
    (Prod.snd (List.getD l1 (Int.toNat n5) (0, 0, 0))) + Prod.snd (Prod.snd (List.getD l1 (Int.toNat n5) (0, 0, 0))) ≤ 9223372036854775807) ∧ 0 ≤ Prod.fst (Prod.snd (List.getD l1 (Int.toNat n5) (0, 0, 0))) ∧ Prod.fst (Prod.snd (List.getD l1
    (Int.toNat n5) (0, 0, 0))) ≤ Prod.fst (Prod.snd (List.getD l1 (Int.toNat n5) (0, 0, 0))) + Prod.snd (Prod.snd (List.getD l1 (Int.toNat n5) (0, 0, 0))) ∧ Prod.fst (Prod.snd (List.getD l1 (Int.toNat n5) (0, 0, 0))) + Prod.snd (Prod.snd
    (List.getD l1 (Int.toNat n5) (0, 0, 0))) ≤ (↑(List.length l0) : Int) ∧ (↑(List.length l4 + List.length (List.drop (Int.toNat (Prod.fst (Prod.snd (List.getD l1 (Int.toNat n5) (0, 0, 0))))) (List.take (Int.toNat (Prod.fst (Prod.snd (List.getD
    l1 (Int.toNat n5) (0, 0, 0))) + Prod.snd (Prod.snd (List.getD l1 (Int.toNat n5) (0, 0, 0))))) l0))) : Int) ≤ 1099511627776 ∧ (40 < (↑(List.length (l4 ++ List.drop (Int.toNat (Prod.fst (Prod.snd (List.getD l1 (Int.toNat n5) (0, 0, 0)))))
    (List.take (Int.toNat (Prod.fst (Prod.snd (List.getD l1 (Int.toNat n5) (0, 0, 0))) + Prod.snd (Prod.snd (List.getD l1 (Int.toNat n5) (0, 0, 0))))) l0))) : Int) → false = Option.isSome (deltaApply l0 l1) ∧ [] = Option.getD (deltaApply l0 l1)
    []) ∧ (¬40 < (↑(List.length (l4 ++ List.drop (Int.toNat (Prod.fst (Prod.snd (List.getD l1 (Int.toNat n5) (0, 0, 0))))) (List.take (Int.toNat (Prod.fst (Prod.snd (List.getD l1 (Int.toNat n5) (0, 0, 0))) + Prod.snd (Prod.snd (List.getD l1
    (Int.toNat n5) (0, 0, 0))))) l0))) : Int) → (-9223372036854775808 ≤ n5 + 1 ∧ n5 + (1 : Int) ≤ 9223372036854775807) ∧ I2 (l4 ++ List.drop (Int.toNat (Prod.fst (Prod.snd (List.getD l1 (Int.toNat n5) (0, 0, 0))))) (List.take (Int.toNat (Prod.fst
    (Prod.snd (List.getD l1 (Int.toNat n5) (0, 0, 0))) + Prod.snd (Prod.snd (List.getD l1 (Int.toNat n5) (0, 0, 0))))) l0)) (n5 + 1) ∧ m3 (l4 ++ List.drop (Int.toNat (Prod.fst (Prod.snd (List.getD l1 (Int.toNat n5) (0, 0, 0))))) (List.take
    (Int.toNat (Prod.fst (Prod.snd (List.getD l1 (Int.toNat n5) (0, 0, 0))) + Prod.snd (Prod.snd (List.getD l1 (Int.toNat n5) (0, 0, 0))))) l0)) (n5 + 1) < m3 l4 n5)) ∧ (false = decide (2 ≤ Prod.snd (Prod.snd (List.getD l1 (Int.toNat n5) (0, 0,
    0))) ∧ Prod.snd (Prod.snd (List.getD l1 (Int.toNat n5) (0, 0, 0))) ≤ (↑(List.length l0) : Int) - Prod.fst (Prod.snd (List.getD l1 (Int.toNat n5) (0, 0, 0)))) → false = Option.isSome (deltaApply l0 l1) ∧ [] = Option.getD (deltaApply l0 l1)
    [])) ∧ (false = decide (0 ≤ Prod.fst (Prod.snd (List.getD l1 (Int.toNat n5) (0, 0, 0))) ∧ Prod.fst (Prod.snd (List.getD l1 (Int.toNat n5) (0, 0, 0))) ≤ (↑(List.length l0) : Int)) → false = Option.isSome (deltaApply l0 l1) ∧ [] = Option.getD
    (deltaApply l0 l1) [])) ∧ (¬Prod.fst (List.getD l1 (Int.toNat n5) (0, 0, 0)) = 0 → false = Option.isSome (deltaApply l0 l1) ∧ [] = Option.getD (deltaApply l0 l1) []))) ∧ (¬Prod.fst (Prod.snd (List.getD l1 (Int.toNat n5) (0, 0, 0))) = 0 →
    (Prod.fst (List.getD l1 (Int.toNat n5) (0, 0, 0)) = 0 → True ∧ (true = decide (0 ≤ Prod.fst (Prod.snd (List.getD l1 (Int.toNat n5) (0, 0, 0))) ∧ Prod.fst (Prod.snd (List.getD l1 (Int.toNat n5) (0, 0, 0))) ≤ (↑(List.length l0) : Int)) →
    (-9223372036854775808 ≤ (↑(List.length l0) : Int) - Prod.fst (Prod.snd (List.getD l1 (Int.toNat n5) (0, 0, 0))) ∧ (↑(List.length l0) : Int) - Prod.fst (Prod.snd (List.getD l1 (Int.toNat n5) (0, 0, 0))) ≤ 9223372036854775807) ∧ True ∧ (true =
    decide (2 ≤ Prod.snd (Prod.snd (List.getD l1 (Int.toNat n5) (0, 0, 0))) ∧ Prod.snd (Prod.snd (List.getD l1 (Int.toNat n5) (0, 0, 0))) ≤ (↑(List.length l0) : Int) - Prod.fst (Prod.snd (List.getD l1 (Int.toNat n5) (0, 0, 0)))) →
    (-9223372036854775808 ≤ Prod.fst (Prod.snd (List.getD l1 (Int.toNat n5) (0, 0, 0))) + Prod.snd (Prod.snd (List.getD l1 (Int.toNat n5) (0, 0, 0))) ∧ Prod.fst (Prod.snd (List.getD l1 (Int.toNat n5) (0, 0, 0))) + Prod.snd (Prod.snd (List.getD
    l1 (Int.toNat n5) (0, 0, 0))) ≤ 9223372036854775807) ∧ 0 ≤ Prod.fst (Prod.snd (List.getD l1 (Int.toNat n5) (0, 0, 0))) ∧ Prod.fst (Prod.snd (List.getD l1 (Int.toNat n5) (0, 0, 0))) ≤ Prod.fst (Prod.snd (List.getD l1 (Int.toNat n5) (0, 0,
    0))) + Prod.snd (Prod.snd (List.getD l1 (Int.toNat n5) (0, 0, 0))) ∧ Prod.fst (Prod.snd (List.getD l1 (Int.toNat n5) (0, 0, 0))) + Prod.snd (Prod.snd (List.getD l1 (Int.toNat n5) (0, 0, 0))) ≤ (↑(List.length l0) : Int) ∧ (↑(List.length l4 +
    List.length (List.drop (Int.toNat (Prod.fst (Prod.snd (List.getD l1 (Int.toNat n5) (0, 0, 0))))) (List.take (Int.toNat (Prod.fst (Prod.snd (List.getD l1 (Int.toNat n5) (0, 0, 0))) + Prod.snd (Prod.snd (List.getD l1 (Int.toNat n5) (0, 0,
    0))))) l0))) : Int) ≤ 1099511627776 ∧ (40 < (↑(List.length (l4 ++ List.drop (Int.toNat (Prod.fst (Prod.snd (List.getD l1 (Int.toNat n5) (0, 0, 0))))) (List.take (Int.toNat (Prod.fst (Prod.snd (List.getD l1 (Int.toNat n5) (0, 0, 0))) +
    Prod.snd (Prod.snd (List.getD l1 (Int.toNat n5) (0, 0, 0))))) l0))) : Int) → false = Option.isSome (deltaApply l0 l1) ∧ [] = Option.getD (deltaApply l0 l1) []) ∧ (¬40 < (↑(List.length (l4 ++ List.drop (Int.toNat (Prod.fst (Prod.snd
    (List.getD l1 (Int.toNat n5) (0, 0, 0))))) (List.take (Int.toNat (Prod.fst (Prod.snd (List.getD l1 (Int.toNat n5) (0, 0, 0))) + Prod.snd (Prod.snd (List.getD l1 (Int.toNat n5) (0, 0, 0))))) l0))) : Int) → (-9223372036854775808 ≤ n5 + 1 ∧ n5
    + (1 : Int) ≤ 9223372036854775807) ∧ I2 (l4 ++ List.drop (Int.toNat (Prod.fst (Prod.snd (List.getD l1 (Int.toNat n5) (0, 0, 0))))) (List.take (Int.toNat (Prod.fst (Prod.snd (List.getD l1 (Int.toNat n5) (0, 0, 0))) + Prod.snd (Prod.snd (List.getD l1
    (Int.toNat n5) (0, 0, 0))))) l0)) (n5 + 1) ∧ m3 (l4 ++ List.drop (Int.toNat (Prod.fst (Prod.snd (List.getD l1 (Int.toNat n5) (0, 0, 0))))) (List.take (Int.toNat (Prod.fst (Prod.snd (List.getD l1 (Int.toNat n5) (0, 0, 0))) + Prod.snd
    (Prod.snd (List.getD l1 (Int.toNat n5) (0, 0, 0))))) l0)) (n5 + 1) < m3 l4 n5)) ∧ (false = decide (2 ≤ Prod.snd (Prod.snd (List.getD l1 (Int.toNat n5) (0, 0, 0))) ∧ Prod.snd (Prod.snd (List.getD l1 (Int.toNat n5) (0, 0, 0))) ≤ (↑(List.length
    l0) : Int) - Prod.fst (Prod.snd (List.getD l1 (Int.toNat n5) (0, 0, 0)))) → false = Option.isSome (deltaApply l0 l1) ∧ [] = Option.getD (deltaApply l0 l1) [])) ∧ (false = decide (0 ≤ Prod.fst (Prod.snd (List.getD l1 (Int.toNat n5) (0, 0,
    0))) ∧ Prod.fst (Prod.snd (List.getD l1 (Int.toNat n5) (0, 0, 0))) ≤ (↑(List.length l0) : Int)) → false = Option.isSome (deltaApply l0 l1) ∧ [] = Option.getD (deltaApply l0 l1) [])) ∧ (¬Prod.fst (List.getD l1 (Int.toNat n5) (0, 0, 0)) = 0 →
    false = Option.isSome (deltaApply l0 l1) ∧ [] = Option.getD (deltaApply l0 l1) []))) ∧ (¬n5 < (↑(List.length l1) : Int) → true = Option.isSome (deltaApply l0 l1) ∧ l4 = Option.getD (deltaApply l0 l1) [])) ∧ (false = LV l0 → false =
    Option.isSome (deltaApply l0 l1) ∧ [] = Option.getD (deltaApply l0 l1) [])
theorem v_i_DeltaApply : V_i_DeltaApply := by
  unfold V_i_DeltaApply
  rintro o ps ⟨hz, hz'⟩
  refine ⟨hz, fun hv => ?_, fun hv => ?_⟩
  · have hD : deltaApply o ps = applyFrom o ps [] := by unfold deltaApply; rw [if_pos hv.symm]
    rw [hD]
    have hl := LV_len hv.symm
    clear hv hD hz
    refine ⟨fun out i => 0 ≤ i ∧ i ≤ ps.length ∧ (out.length : Int) ≤ 40 ∧ applyFrom o (ps.drop i.toNat) out = applyFrom o ps [], fun out i => (ps.length - i).toNat, ?_, ?_⟩ <;> dsimp only
    · simp
    rintro out i ⟨h0, h1, h2, h3⟩
    refine ⟨fun hlt => ?_, fun hge => ?_⟩
    · rw [apply_step h0 hlt] at h3
      generalize List.getD ps i.toNat (0, 0, 0) = x at *
      obtain ⟨s, f, m⟩ := x
      generalize applyFrom o ps [] = R at *
      dsimp only at *
      simp only [putPiece] at h3
      simp only [List.length_append, List.length_cons, List.length_nil, List.length_drop, List.length_take]
      refine ⟨h0, hlt, ?_⟩
      repeat' (first | apply And.intro | intro _)
      all_goals (first | omega | grind)
    · rw [apply_end hge] at h3; rw [← h3]; simp
  · simp [deltaApply, ← hv]
def V_s_DeltaCopied : Prop :=
  ∀ (l0 : List Int) (l1 : List (Int × Int × Int)), (↑(List.length l0) : Int) ≤ 1099511627776 ∧ (↑(List.length l1) : Int) ≤ 1099511627776 → ((↑(List.length l0) : Int) ≤ 1099511627776 ∧ (↑(List.length l1) : Int) ≤ 1099511627776) ∧ ∀ (l2 : List
    Int), (true = Option.isSome (deltaApply l0 l1) ∧ l2 = Option.getD (deltaApply l0 l1) [] → ∃ (I3 : Int → Int → Prop), ∃ (m4 : Int → Int → Nat), I3 0 0 ∧ ∀ (n5 n6 : Int), I3 n5 n6 → (n6 < (↑(List.length l1) : Int) → 0 ≤ n6 ∧ n6 <
    (↑(List.length l1) : Int) ∧ (-9223372036854775808 ≤ n5 + Prod.snd (Prod.snd (List.getD l1 (Int.toNat n6) (0, 0, 0))) ∧ n5 + Prod.snd (Prod.snd (List.getD l1 (Int.toNat n6) (0, 0, 0))) ≤ 9223372036854775807) ∧ (-9223372036854775808 ≤ n6 + 1 ∧
    n6 + (1 : Int) ≤ 9223372036854775807) ∧ I3 (n5 + Prod.snd (Prod.snd (List.getD l1 (Int.toNat n6) (0, 0, 0)))) (n6 + 1) ∧ m4 (n5 + Prod.snd (Prod.snd (List.getD l1 (Int.toNat n6) (0, 0, 0)))) (n6 + 1) < m4 n5 n6) ∧ (¬n6 < (↑(List.length l1) : Int) →
    n5 = copiedD l0 l1)) ∧ (false = Option.isSome (deltaApply l0 l1) ∧ l2 = Option.getD (deltaApply l0 l1) [] → -1 = copiedD l0 l1)
theorem v_s_DeltaCopied : V_s_DeltaCopied := by
  unfold V_s_DeltaCopied
  rintro o ps ⟨hz, hz'⟩
  refine ⟨⟨hz, hz'⟩, ?_⟩
  intro out
  refine ⟨?_, ?_⟩
  · rintro ⟨h1, _⟩
    have hc : copiedD o ps = manySum ps := by unfold copiedD; rw [if_pos h1.symm]
    rw [hc]
    obtain ⟨hn, hb, hb'⟩ : (∀ p ∈ ps, 0 ≤ p.2.2) ∧ 0 ≤ manySum ps ∧ manySum ps ≤ 40 := by
      have hlen := applyD_len o ps
      unfold deltaApply at h1 hlen
      split at h1
      · rename_i hv
        rw [if_pos hv] at hlen
        cases hr : applyFrom o ps [] with
        | none => rw [hr] at h1; simp at h1
        | some r =>
          obtain ⟨q1, q2, q3⟩ := apply_many hr
          rw [hr] at hlen
          simp at hlen q3
          exact ⟨q1, q2, by omega⟩
      · simp at h1
    refine ⟨fun n i => 0 ≤ i ∧ i ≤ ps.length ∧ 0 ≤ n ∧ n + manySum (ps.drop i.toNat) = manySum ps, fun n i => (ps.length - i).toNat, ?_, ?_⟩ <;> dsimp only
    · simp
    rintro n i ⟨h0, h1, h2, h3⟩
    refine ⟨fun hlt => ?_, fun hge => ?_⟩
    · rw [many_step h0 hlt] at h3
      have hd := many_drop hn (i + 1).toNat
      have hx : 0 ≤ (ps.getD i.toNat (0, 0, 0)).2.2 := hn _ (by
        have : i.toNat < ps.length := by omega
        simp [List.getD_eq_getElem?_getD, this])
      generalize List.getD ps i.toNat (0, 0, 0) = x at *
      refine ⟨h0, hlt, by omega, by omega, ⟨by omega, by omega, by omega, by omega⟩, by omega⟩
    · rw [many_end hge] at h3; omega
  · rintro ⟨h1, _⟩
    unfold copiedD; rw [if_neg (by rw [← h1]; simp)]
def V_i_DeltaCopied : Prop :=
  ∀ (l0 : List Int) (l1 : List (Int × Int × Int)), (↑(List.length l0) : Int) ≤ 1099511627776 ∧ (↑(List.length l1) : Int) ≤ 1099511627776 → ((↑(List.length l0) : Int) ≤ 1099511627776 ∧ (↑(List.length l1) : Int) ≤ 1099511627776) ∧ ∀ (l2 : List
    Int), (true = Option.isSome (deltaApply l0 l1) ∧ l2 = Option.getD (deltaApply l0 l1) [] → ∃ (I3 : Int → Int → Prop), ∃ (m4 : Int → Int → Nat), I3 0 0 ∧ ∀ (n5 n6 : Int), I3 n5 n6 → (n6 < (↑(List.length l1) : Int) → 0 ≤ n6 ∧ n6 <
    (↑(List.length l1) : Int) ∧ (-9223372036854775808 ≤ n5 + Prod.snd (Prod.snd (List.getD l1 (Int.toNat n6) (0, 0, 0))) ∧ n5 + Prod.snd (Prod.snd (List.getD l1 (Int.toNat n6) (0, 0, 0))) ≤ 9223372036854775807) ∧ (-9223372036854775808 ≤ n6 + 1 ∧
    n6 + (1 : Int) ≤ 9223372036854775807) ∧ I3 (n5 + Prod.snd (Prod.snd (List.getD l1 (Int.toNat n6) (0, 0, 0)))) (n6 + 1) ∧ m4 (n5 + Prod.snd (Prod.snd (List.getD l1 (Int.toNat n6) (0, 0, 0)))) (n6 + 1) < m4 n5 n6) ∧ (¬n6 < (↑(List.length l1) : Int) →
    n5 = copiedD l0 l1)) ∧ (false = Option.isSome (deltaApply l0 l1) ∧ l2 = Option.getD (deltaApply l0 l1) [] → -1 = copiedD l0 l1)
theorem v_i_DeltaCopied : V_i_DeltaCopied := by
  unfold V_i_DeltaCopied
  rintro o ps ⟨hz, hz'⟩
  refine ⟨⟨hz, hz'⟩, ?_⟩
  intro out
  refine ⟨?_, ?_⟩
  · rintro ⟨h1, _⟩
    have hc : copiedD o ps = manySum ps := by unfold copiedD; rw [if_pos h1.symm]
    rw [hc]
    obtain ⟨hn, hb, hb'⟩ : (∀ p ∈ ps, 0 ≤ p.2.2) ∧ 0 ≤ manySum ps ∧ manySum ps ≤ 40 := by
      have hlen := applyD_len o ps
      unfold deltaApply at h1 hlen
      split at h1
      · rename_i hv
        rw [if_pos hv] at hlen
        cases hr : applyFrom o ps [] with
        | none => rw [hr] at h1; simp at h1
        | some r =>
          obtain ⟨q1, q2, q3⟩ := apply_many hr
          rw [hr] at hlen
          simp at hlen q3
          exact ⟨q1, q2, by omega⟩
      · simp at h1
    refine ⟨fun n i => 0 ≤ i ∧ i ≤ ps.length ∧ 0 ≤ n ∧ n + manySum (ps.drop i.toNat) = manySum ps, fun n i => (ps.length - i).toNat, ?_, ?_⟩ <;> dsimp only
    · simp
    rintro n i ⟨h0, h1, h2, h3⟩
    refine ⟨fun hlt => ?_, fun hge => ?_⟩
    · rw [many_step h0 hlt] at h3
      have hd := many_drop hn (i + 1).toNat
      have hx : 0 ≤ (ps.getD i.toNat (0, 0, 0)).2.2 := hn _ (by
        have : i.toNat < ps.length := by omega
        simp [List.getD_eq_getElem?_getD, this])
      generalize List.getD ps i.toNat (0, 0, 0) = x at *
      refine ⟨h0, hlt, by omega, by omega, ⟨by omega, by omega, by omega, by omega⟩, by omega⟩
    · rw [many_end hge] at h3; omega
  · rintro ⟨h1, _⟩
    unfold copiedD; rw [if_neg (by rw [← h1]; simp)]
end Go.Proofs.Ythongcikinnjlaa
