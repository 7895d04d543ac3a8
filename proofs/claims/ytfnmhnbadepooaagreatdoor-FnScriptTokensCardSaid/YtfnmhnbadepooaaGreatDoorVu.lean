/-
  The conditions of functions, proved: u_turn.
-/
import Derived.Test.YtfnmhnbadepooaaGreatDoorM
set_option linter.unusedVariables false
set_option linter.unusedSimpArgs false
open Go Go.Ax Go.Mx
namespace Go.Proofs.YtfnmhnbadepooaaGreatDoor
def V_i_rotationBefore : Prop :=
  ∀ (l0 : List Int) (n1 n2 : Int), (l0.length : Int) ≤ 1000 ∧ 0 ≤ n1 ∧ n1 ≤ 1000 ∧ 0 ≤ n2 ∧ n2 ≤ 1000 → ∃ (I3 : Int → Prop), ∃ (m4 : Int → Nat), I3 0 ∧ ∀ (n5 : Int), I3 n5 → (n5 < (l0.length : Int) → (-9223372036854775808 ≤ n1 + n5 ∧ n1 + n5 ≤
 (9223372036854775807 : Int)) ∧ 0 ≤ n1 + n5 ∧ 0 < (l0.length : Int) ∧ 0 ≤ (n1 + n5) % (l0.length : Int) ∧ (n1 + n5) % (l0.length : Int) < (l0.length : Int) ∧ (-9223372036854775808 ≤ n2 + n5 ∧ n2 + n5 ≤ (9223372036854775807 : Int)) ∧ 0 ≤ n2 +
 n5 ∧ 0 < (l0.length : Int) ∧ 0 ≤ (n2 + n5) % (l0.length : Int) ∧ (n2 + n5) % (l0.length : Int) < (l0.length : Int) ∧ (List.getD l0 (Int.toNat ((n1 + n5) % (l0.length : Int))) 0 ≠ List.getD l0 (Int.toNat ((n2 + n5) % (l0.length : Int))) 0 →
 (List.getD l0 (Int.toNat ((n1 + n5) % (l0.length : Int))) 0 < List.getD l0 (Int.toNat ((n2 + n5) % (l0.length : Int))) 0 → true = rotLt l0 n1 n2) ∧ (¬List.getD l0 (Int.toNat ((n1 + n5) % (l0.length : Int))) 0 < List.getD l0 (Int.toNat ((n2 +
 n5) % (l0.length : Int))) 0 → false = rotLt l0 n1 n2)) ∧ (¬List.getD l0 (Int.toNat ((n1 + n5) % (l0.length : Int))) 0 ≠ List.getD l0 (Int.toNat ((n2 + n5) % (l0.length : Int))) 0 → (-9223372036854775808 ≤ n5 + 1 ∧ n5 + (1 : Int) ≤
 (9223372036854775807 : Int)) ∧ I3 (n5 + 1) ∧ m4 (n5 + 1) < m4 n5)) ∧ (¬n5 < (l0.length : Int) → (n1 < n2 → true = rotLt l0 n1 n2) ∧ (¬n1 < n2 → false = rotLt l0 n1 n2))
theorem v_i_rotationBefore : V_i_rotationBefore := by
  unfold V_i_rotationBefore
  rintro l a b ⟨hl, a0, a1, b0, b1⟩
  refine ⟨fun k => 0 ≤ k ∧ k ≤ l.length ∧ rotL l a b ((l.length : Int) - k).toNat k = rotLt l a b, fun k => (l.length - k).toNat, ?_, ?_⟩ <;> dsimp only
  · exact ⟨by omega, by omega, by rw [Int.sub_zero]; rfl⟩
  rintro k ⟨k0, k1, hI⟩
  refine ⟨fun hk => ?_, fun hk => ?_⟩
  · rw [rotL_step hk] at hI
    have m0 := Int.emod_nonneg (a + k) (b := (l.length : Int)) (by omega)
    have m1 := Int.emod_lt_of_pos (a + k) (b := (l.length : Int)) (by omega)
    have n0 := Int.emod_nonneg (b + k) (b := (l.length : Int)) (by omega)
    have n1 := Int.emod_lt_of_pos (b + k) (b := (l.length : Int)) (by omega)
    refine ⟨by omega, by omega, by omega, m0, m1, by omega, by omega, by omega, n0, n1, fun hne => ?_, fun he => ?_⟩
    · rw [if_neg hne] at hI
      exact ⟨fun h => by rw [← hI, decide_eq_true h], fun h => by rw [← hI, decide_eq_false h]⟩
    · rw [if_pos (Decidable.not_not.1 he)] at hI
      exact ⟨by omega, ⟨by omega, by omega, hI⟩, by omega⟩
  · rw [rotL_end hk] at hI
    exact ⟨fun h => by rw [← hI, decide_eq_true h], fun h => by rw [← hI, decide_eq_false h]⟩
def V_s_l16Less : Prop :=
  ∀ (l0 : List Int) (n1 n2 : Int), (l0.length : Int) ≤ 1000 ∧ 0 ≤ n1 ∧ n1 ≤ 1000 ∧ 0 ≤ n2 ∧ n2 ≤ 1000 → ∃ (I3 : Int → Prop), ∃ (m4 : Int → Nat), I3 0 ∧ ∀ (n5 : Int), I3 n5 → (n5 < (l0.length : Int) → (-9223372036854775808 ≤ n1 + n5 ∧ n1 + n5 ≤
 (9223372036854775807 : Int)) ∧ 0 ≤ n1 + n5 ∧ 0 < (l0.length : Int) ∧ 0 ≤ (n1 + n5) % (l0.length : Int) ∧ (n1 + n5) % (l0.length : Int) < (l0.length : Int) ∧ (-9223372036854775808 ≤ n2 + n5 ∧ n2 + n5 ≤ (9223372036854775807 : Int)) ∧ 0 ≤ n2 +
 n5 ∧ 0 < (l0.length : Int) ∧ 0 ≤ (n2 + n5) % (l0.length : Int) ∧ (n2 + n5) % (l0.length : Int) < (l0.length : Int) ∧ (List.getD l0 (Int.toNat ((n1 + n5) % (l0.length : Int))) 0 ≠ List.getD l0 (Int.toNat ((n2 + n5) % (l0.length : Int))) 0 →
 (List.getD l0 (Int.toNat ((n1 + n5) % (l0.length : Int))) 0 < List.getD l0 (Int.toNat ((n2 + n5) % (l0.length : Int))) 0 → true = rotLt l0 n1 n2) ∧ (¬List.getD l0 (Int.toNat ((n1 + n5) % (l0.length : Int))) 0 < List.getD l0 (Int.toNat ((n2 +
 n5) % (l0.length : Int))) 0 → false = rotLt l0 n1 n2)) ∧ (¬List.getD l0 (Int.toNat ((n1 + n5) % (l0.length : Int))) 0 ≠ List.getD l0 (Int.toNat ((n2 + n5) % (l0.length : Int))) 0 → (-9223372036854775808 ≤ n5 + 1 ∧ n5 + (1 : Int) ≤
 (9223372036854775807 : Int)) ∧ I3 (n5 + 1) ∧ m4 (n5 + 1) < m4 n5)) ∧ (¬n5 < (l0.length : Int) → (n1 < n2 → true = rotLt l0 n1 n2) ∧ (¬n1 < n2 → false = rotLt l0 n1 n2))
theorem v_s_l16Less : V_s_l16Less := by
  unfold V_s_l16Less
  rintro l a b ⟨hl, a0, a1, b0, b1⟩
  refine ⟨fun k => 0 ≤ k ∧ k ≤ l.length ∧ rotL l a b ((l.length : Int) - k).toNat k = rotLt l a b, fun k => (l.length - k).toNat, ?_, ?_⟩ <;> dsimp only
  · exact ⟨by omega, by omega, by rw [Int.sub_zero]; rfl⟩
  rintro k ⟨k0, k1, hI⟩
  refine ⟨fun hk => ?_, fun hk => ?_⟩
  · rw [rotL_step hk] at hI
    have m0 := Int.emod_nonneg (a + k) (b := (l.length : Int)) (by omega)
    have m1 := Int.emod_lt_of_pos (a + k) (b := (l.length : Int)) (by omega)
    have n0 := Int.emod_nonneg (b + k) (b := (l.length : Int)) (by omega)
    have n1 := Int.emod_lt_of_pos (b + k) (b := (l.length : Int)) (by omega)
    refine ⟨by omega, by omega, by omega, m0, m1, by omega, by omega, by omega, n0, n1, fun hne => ?_, fun he => ?_⟩
    · rw [if_neg hne] at hI
      exact ⟨fun h => by rw [← hI, decide_eq_true h], fun h => by rw [← hI, decide_eq_false h]⟩
    · rw [if_pos (Decidable.not_not.1 he)] at hI
      exact ⟨by omega, ⟨by omega, by omega, hI⟩, by omega⟩
  · rw [rotL_end hk] at hI
    exact ⟨fun h => by rw [← hI, decide_eq_true h], fun h => by rw [← hI, decide_eq_false h]⟩
def V_i_RotationsOf : Prop :=
  ∀ (l0 : List Int), (l0.length : Int) ≤ 1099511627776 → (l0.length : Int) ≤ 1099511627776 ∧ (true = LV l0 → ∃ (I1 : List Int → Int → Prop), ∃ (m2 : List Int → Int → Nat), I1 [] 0 ∧ ∀ (l3 : List Int) (n4 : Int), I1 l3 n4 → (n4 < (l0.length :
 Int) → ∃ (I5 : Int → Prop), ∃ (m6 : Int → Nat), I5 (l3.length : Int) ∧ ∀ (n7 : Int), I5 n7 → (0 < n7 → (-9223372036854775808 ≤ n7 - 1 ∧ n7 - (1 : Int) ≤ (9223372036854775807 : Int)) ∧ 0 ≤ n7 - 1 ∧ n7 - 1 < (l3.length : Int) ∧ Int.toNat (n7 -
 1) < l3.length ∧ ((l0.length : Int) ≤ 1000 ∧ 0 ≤ n4 ∧ n4 ≤ 1000 ∧ 0 ≤ List.getD l3 (Int.toNat (n7 - 1)) 0 ∧ List.getD l3 (Int.toNat (n7 - 1)) (0 : Int) ≤ 1000) ∧ (true = rotLt l0 n4 (List.getD l3 (Int.toNat (n7 - 1)) 0) →
 (-9223372036854775808 ≤ n7 - 1 ∧ n7 - (1 : Int) ≤ (9223372036854775807 : Int)) ∧ I5 (n7 - 1) ∧ m6 (n7 - 1) < m6 n7) ∧ (false = rotLt l0 n4 (List.getD l3 (Int.toNat (n7 - 1)) 0) → (↑(l3.length + List.length [0]) : Int) ≤ 1099511627776 ∧
 (-9223372036854775808 ≤ n7 + 1 ∧ n7 + (1 : Int) ≤ (9223372036854775807 : Int)) ∧ 0 ≤ n7 + 1 ∧ n7 + 1 ≤ (↑(List.length (l3 ++ [0])) : Int) ∧ (↑(List.length (l3 ++ [0])) : Int) ≤ (↑(List.length (l3 ++ [0])) : Int) ∧ 0 ≤ n7 ∧ n7 ≤
 (↑(List.length (l3 ++ [0])) : Int) ∧ (↑(List.length (l3 ++ [0])) : Int) ≤ (↑(List.length (l3 ++ [0])) : Int) ∧ Int.toNat (n7 + 1) + Int.toNat ((↑(List.length (l3 ++ [0])) : Int) - (n7 + 1)) ≤ List.length (l3 ++ [0]) ∧ 0 ≤ n7 ∧ n7 <
 (↑(List.length (splice (l3 ++ [0]) (Int.toNat (n7 + 1)) (List.take (Int.toNat ((↑(List.length (l3 ++ [0])) : Int) - (n7 + 1))) (List.take (Int.toNat ((↑(List.length (l3 ++ [0])) : Int) - n7)) (List.drop (n7.toNat) (l3 ++ [0])))))) : Int) ∧
 n7.toNat < List.length (splice (l3 ++ [0]) (Int.toNat (n7 + 1)) (List.take (Int.toNat ((↑(List.length (l3 ++ [0])) : Int) - (n7 + 1))) (List.take (Int.toNat ((↑(List.length (l3 ++ [0])) : Int) - n7)) (List.drop (n7.toNat) (l3 ++ [0]))))) ∧
 (-9223372036854775808 ≤ n4 + 1 ∧ n4 + (1 : Int) ≤ (9223372036854775807 : Int)) ∧ I1 (List.set (splice (l3 ++ [0]) (Int.toNat (n7 + 1)) (List.take (Int.toNat ((↑(List.length (l3 ++ [0])) : Int) - (n7 + 1))) (List.take (Int.toNat
 ((↑(List.length (l3 ++ [0])) : Int) - n7)) (List.drop (n7.toNat) (l3 ++ [0]))))) (n7.toNat) n4) (n4 + 1) ∧ m2 (List.set (splice (l3 ++ [0]) (Int.toNat (n7 + 1)) (List.take (Int.toNat ((↑(List.length (l3 ++ [0])) : Int) - (n7 + 1)))
 (List.take (Int.toNat ((↑(List.length (l3 ++ [0])) : Int) - n7)) (List.drop (n7.toNat) (l3 ++ [0]))))) (n7.toNat) n4) (n4 + 1) < m2 l3 n4)) ∧ (¬0 < n7 → (↑(l3.length + List.length [0]) : Int) ≤ 1099511627776 ∧ (-9223372036854775808 ≤ n7 + 1
 ∧ n7 + (1 : Int) ≤ (9223372036854775807 : Int)) ∧ 0 ≤ n7 + 1 ∧ n7 + 1 ≤ (↑(List.length (l3 ++ [0])) : Int) ∧ (↑(List.length (l3 ++ [0])) : Int) ≤ (↑(List.length (l3 ++ [0])) : Int) ∧ 0 ≤ n7 ∧ n7 ≤ (↑(List.length (l3 ++ [0])) : Int) ∧
 (↑(List.length (l3 ++ [0])) : Int) ≤ (↑(List.length (l3 ++ [0])) : Int) ∧ Int.toNat (n7 + 1) + Int.toNat ((↑(List.length (l3 ++ [0])) : Int) - (n7 + 1)) ≤ List.length (l3 ++ [0]) ∧ 0 ≤ n7 ∧ n7 < (↑(List.length (splice (l3 ++ [0]) (Int.toNat
 (n7 + 1)) (List.take (Int.toNat ((↑(List.length (l3 ++ [0])) : Int) - (n7 + 1))) (List.take (Int.toNat ((↑(List.length (l3 ++ [0])) : Int) - n7)) (List.drop (n7.toNat) (l3 ++ [0])))))) : Int) ∧ n7.toNat < List.length (splice (l3 ++ [0])
 (Int.toNat (n7 + 1)) (List.take (Int.toNat ((↑(List.length (l3 ++ [0])) : Int) - (n7 + 1))) (List.take (Int.toNat ((↑(List.length (l3 ++ [0])) : Int) - n7)) (List.drop (n7.toNat) (l3 ++ [0]))))) ∧ (-9223372036854775808 ≤ n4 + 1 ∧ n4 + (1 :
 Int) ≤ (9223372036854775807 : Int)) ∧ I1 (List.set (splice (l3 ++ [0]) (Int.toNat (n7 + 1)) (List.take (Int.toNat ((↑(List.length (l3 ++ [0])) : Int) - (n7 + 1))) (List.take (Int.toNat ((↑(List.length (l3 ++ [0])) : Int) - n7)) (List.drop
 (n7.toNat) (l3 ++ [0]))))) (n7.toNat) n4) (n4 + 1) ∧ m2 (List.set (splice (l3 ++ [0]) (Int.toNat (n7 + 1)) (List.take (Int.toNat ((↑(List.length (l3 ++ [0])) : Int) - (n7 + 1))) (List.take (Int.toNat ((↑(List.length (l3 ++ [0])) : Int) -
 n7)) (List.drop (n7.toNat) (l3 ++ [0]))))) (n7.toNat) n4) (n4 + 1) < m2 l3 n4)) ∧ (¬n4 < (l0.length : Int) → (l3 = if LV l0 = true then rotsD l0 else []) ∧ (l3.length : Int) ≤ 40)) ∧ (false = LV l0 → ([] = if LV l0 = true then rotsD l0 else
 []) ∧ (↑0 : Int) ≤ 40)
theorem v_i_RotationsOf : V_i_RotationsOf := by
  unfold V_i_RotationsOf
  intro l hz
  refine ⟨hz, fun hv => ?_, fun hv => by rw [← hv]; exact ⟨rfl, by omega⟩⟩
  rw [← hv, if_pos rfl]
  have h' := hv.symm
  simp only [LV, Bool.and_eq_true, decide_eq_true_eq] at h'
  refine ⟨fun out i => 0 ≤ i ∧ i ≤ l.length ∧ out = rotsN l i.toNat, fun out i => (l.length - i).toNat, ?_, ?_⟩ <;> dsimp only
  · exact ⟨by omega, by omega, rfl⟩
  rintro out i ⟨i0, i1, hout⟩
  have hlen := rotsN_len l i.toNat
  have hmem := rotsN_mem l i.toNat
  have hsort := rotsN_sorted h'.2 i.toNat
  have hst := rotsN_step l i0
  rw [← hout] at hlen hmem hsort hst
  refine ⟨fun hi => ?_, fun hi => ⟨by rw [hout, show i.toNat = l.length by omega]; rfl, by omega⟩⟩
  refine ⟨fun n => 0 ≤ n ∧ n ≤ out.length ∧ ∀ j, n.toNat ≤ j → j < out.length → rotLt l i (out.getD j 0) = true, fun n => n.toNat, ?_, ?_⟩ <;> dsimp only
  · exact ⟨by omega, by omega, fun j h1 h2 => by omega⟩
  rintro n ⟨n0, n1, hj⟩
  refine ⟨fun hn => ?_, fun hn => ?_⟩
  · have hx := hmem _ (at_mem (i := n - 1) (by omega) (by omega))
    refine ⟨by omega, by omega, by omega, by omega, by omega, fun ht => ⟨by omega, ⟨by omega, by omega, fun j h1 h2 => ?_⟩, by omega⟩, fun hf => ?_⟩
    · by_cases e : j = (n - 1).toNat
      · rw [e]; exact ht.symm
      · exact hj j (by omega) h2
    have hpos : fposR l i out = n.toNat := fposR_back h'.2 hsort (fun x hx => by have := hmem x hx; omega) (by omega) hj (.inr (by rw [show n.toNat - 1 = (n - 1).toNat by omega]; exact hf.symm))
    have hs := ins_splice n0 n1 i
    have hsl := ins_splice_len n0 n1
    have hl1 : (out ++ [0]).length = out.length + 1 := by simp
    rw [hs, hsl]
    refine ⟨by simp only [List.length_cons, List.length_nil]; omega, by omega, by omega, by omega, by omega, by omega, by omega, by omega, by omega, by omega, by omega, by omega, by omega, ⟨by omega, by omega, by rw [hst, insR, hpos]⟩, by omega⟩
  · have hpos : fposR l i out = n.toNat := fposR_back h'.2 hsort (fun x hx => by have := hmem x hx; omega) (by omega) hj (.inl (by omega))
    have hs := ins_splice n0 n1 i
    have hsl := ins_splice_len n0 n1
    have hl1 : (out ++ [0]).length = out.length + 1 := by simp
    rw [hs, hsl]
    refine ⟨by simp only [List.length_cons, List.length_nil]; omega, by omega, by omega, by omega, by omega, by omega, by omega, by omega, by omega, by omega, by omega, by omega, by omega, ⟨by omega, by omega, by rw [hst, insR, hpos]⟩, by omega⟩
def V_s_l16Order : Prop :=
  ∀ (l0 : List Int), LV l0 = true → ∃ (I1 : List Int → Int → Prop), ∃ (m2 : List Int → Int → Nat), I1 [] 0 ∧ ∀ (l3 : List Int) (n4 : Int), I1 l3 n4 → (n4 < (l0.length : Int) → ∃ (I5 : Int → Prop), ∃ (m6 : Int → Nat), I5 0 ∧ ∀ (n7 : Int), I5 n7
 → (n7 < (l3.length : Int) → 0 ≤ n7 ∧ n7 < (l3.length : Int) ∧ n7.toNat < l3.length ∧ ((l0.length : Int) ≤ 1000 ∧ 0 ≤ List.getD l3 (n7.toNat) 0 ∧ List.getD l3 (n7.toNat) (0 : Int) ≤ 1000 ∧ 0 ≤ n4 ∧ n4 ≤ 1000) ∧ (true = rotLt l0 (List.getD l3
 (n7.toNat) 0) n4 → (-9223372036854775808 ≤ n7 + 1 ∧ n7 + (1 : Int) ≤ (9223372036854775807 : Int)) ∧ I5 (n7 + 1) ∧ m6 (n7 + 1) < m6 n7) ∧ (false = rotLt l0 (List.getD l3 (n7.toNat) 0) n4 → 0 ≤ n7 ∧ n7 ≤ (l3.length : Int) ∧ (l3.length : Int) ≤
 (l3.length : Int) ∧ (↑(0 + List.length (List.take (Int.toNat ((l3.length : Int) - n7)) (List.drop (n7.toNat) l3))) : Int) ≤ 1099511627776 ∧ (0 : Int) ≤ 0 ∧ 0 ≤ n7 ∧ n7 ≤ (l3.length : Int) ∧ (↑(List.length (List.take (Int.toNat (n7 - 0)) l3)
 + List.length [n4]) : Int) ≤ 1099511627776 ∧ (↑(List.length (List.take (Int.toNat (n7 - 0)) l3 ++ [n4]) + List.length (List.take (Int.toNat ((l3.length : Int) - n7)) (List.drop (n7.toNat) l3))) : Int) ≤ 1099511627776 ∧ (-9223372036854775808
 ≤ n4 + 1 ∧ n4 + (1 : Int) ≤ (9223372036854775807 : Int)) ∧ I1 (List.take (Int.toNat (n7 - 0)) l3 ++ [n4] ++ List.take (Int.toNat ((l3.length : Int) - n7)) (List.drop (n7.toNat) l3)) (n4 + 1) ∧ m2 (List.take (Int.toNat (n7 - 0)) l3 ++ [n4] ++
 List.take (Int.toNat ((l3.length : Int) - n7)) (List.drop (n7.toNat) l3)) (n4 + 1) < m2 l3 n4)) ∧ (¬n7 < (l3.length : Int) → 0 ≤ n7 ∧ n7 ≤ (l3.length : Int) ∧ (l3.length : Int) ≤ (l3.length : Int) ∧ (↑(0 + List.length (List.take (Int.toNat
 ((l3.length : Int) - n7)) (List.drop (n7.toNat) l3))) : Int) ≤ 1099511627776 ∧ (0 : Int) ≤ 0 ∧ 0 ≤ n7 ∧ n7 ≤ (l3.length : Int) ∧ (↑(List.length (List.take (Int.toNat (n7 - 0)) l3) + List.length [n4]) : Int) ≤ 1099511627776 ∧ (↑(List.length
 (List.take (Int.toNat (n7 - 0)) l3 ++ [n4]) + List.length (List.take (Int.toNat ((l3.length : Int) - n7)) (List.drop (n7.toNat) l3))) : Int) ≤ 1099511627776 ∧ (-9223372036854775808 ≤ n4 + 1 ∧ n4 + (1 : Int) ≤ (9223372036854775807 : Int)) ∧
 I1 (List.take (Int.toNat (n7 - 0)) l3 ++ [n4] ++ List.take (Int.toNat ((l3.length : Int) - n7)) (List.drop (n7.toNat) l3)) (n4 + 1) ∧ m2 (List.take (Int.toNat (n7 - 0)) l3 ++ [n4] ++ List.take (Int.toNat ((l3.length : Int) - n7)) (List.drop
 (n7.toNat) l3)) (n4 + 1) < m2 l3 n4)) ∧ (¬n4 < (l0.length : Int) → l3 = rotsD l0 ∧ (l3.length : Int) ≤ 40)
theorem v_s_l16Order : V_s_l16Order := by
  unfold V_s_l16Order
  intro l hv
  have h' := hv
  simp only [LV, Bool.and_eq_true, decide_eq_true_eq] at h'
  refine ⟨fun out i => 0 ≤ i ∧ i ≤ l.length ∧ out = rotsN l i.toNat, fun out i => (l.length - i).toNat, ?_, ?_⟩ <;> dsimp only
  · exact ⟨by omega, by omega, rfl⟩
  rintro out i ⟨i0, i1, hout⟩
  have hlen := rotsN_len l i.toNat
  have hmem := rotsN_mem l i.toNat
  have hst := rotsN_step l i0
  rw [← hout] at hlen hmem hst
  refine ⟨fun hi => ?_, fun hi => ⟨by rw [hout, show i.toNat = l.length by omega]; rfl, by omega⟩⟩
  refine ⟨fun n => 0 ≤ n ∧ n ≤ out.length ∧ ∀ j, j < n.toNat → rotLt l (out.getD j 0) i = true, fun n => (out.length - n).toNat, ?_, ?_⟩ <;> dsimp only
  · exact ⟨by omega, by omega, fun j h1 => by omega⟩
  rintro n ⟨n0, n1, hj⟩
  have tl : List.take ((out.length : Int) - n).toNat (List.drop n.toNat out) = out.drop n.toNat := List.take_of_length_le (by rw [List.length_drop]; omega)
  have e0 : n - 0 = n := Int.sub_zero n
  have hld := List.length_drop (i := n.toNat) (l := out)
  have hlt := List.length_take (i := n.toNat) (l := out)
  rw [tl, e0]
  have e1 : [i].length = 1 := rfl
  have hla : (out.take n.toNat ++ [i]).length = (out.take n.toNat).length + 1 := by simp
  refine ⟨fun hn => ?_, fun hn => ?_⟩
  · have hx := hmem _ (at_mem (i := n) (by omega) hn)
    refine ⟨by omega, by omega, by omega, by omega, fun ht => ⟨by omega, ⟨by omega, by omega, fun j h1 => ?_⟩, by omega⟩, fun hf => ?_⟩
    · by_cases e : j = n.toNat
      · rw [e]; exact ht.symm
      · exact hj j (by omega)
    have hpos : fposR l i out = n.toNat := fposR_eq l i out n.toNat (by omega) hj (.inr hf.symm)
    refine ⟨by omega, by omega, by omega, by omega, by omega, by omega, by omega, by simp only [List.length_cons, List.length_nil]; omega, by omega, by omega, ⟨by omega, by omega, ?_⟩, by omega⟩
    rw [hst, insR, hpos, List.append_assoc]; rfl
  · have hpos : fposR l i out = n.toNat := fposR_eq l i out n.toNat (by omega) hj (.inl (by omega))
    refine ⟨by omega, by omega, by omega, by omega, by omega, by omega, by omega, by simp only [List.length_cons, List.length_nil]; omega, by omega, by omega, ⟨by omega, by omega, ?_⟩, by omega⟩
    rw [hst, insR, hpos, List.append_assoc]; rfl
def V_i_TurnOf : Prop :=
  ∀ (l0 : List Int), (l0.length : Int) ≤ 1099511627776 → (l0.length : Int) ≤ 1099511627776 ∧ (true = LV l0 → (l0.length : Int) ≤ 1099511627776 ∧ ∀ (l1 : List Int), (l1 = if LV l0 = true then rotsD l0 else []) ∧ (l1.length : Int) ≤ 40 → ∃ (I2 :
 List Int → Int → Int → Prop), ∃ (m3 : List Int → Int → Int → Nat), I2 [] 0 0 ∧ ∀ (l4 : List Int) (n5 n6 : Int), I2 l4 n5 n6 → (n6 < (l1.length : Int) → 0 ≤ n6 ∧ n6 < (l1.length : Int) ∧ n6.toNat < l1.length ∧ (-9223372036854775808 ≤
 List.getD l1 (n6.toNat) 0 + (l0.length : Int) ∧ List.getD l1 (n6.toNat) 0 + (l0.length : Int) ≤ (9223372036854775807 : Int)) ∧ (-9223372036854775808 ≤ List.getD l1 (n6.toNat) 0 + (l0.length : Int) - 1 ∧ List.getD l1 (n6.toNat) 0 + (l0.length
 : Int) - (1 : Int) ≤ (9223372036854775807 : Int)) ∧ 0 ≤ List.getD l1 (n6.toNat) 0 + (l0.length : Int) - 1 ∧ 0 < (l0.length : Int) ∧ 0 ≤ (List.getD l1 (n6.toNat) 0 + (l0.length : Int) - 1) % (l0.length : Int) ∧ (List.getD l1 (n6.toNat) 0 +
 (l0.length : Int) - 1) % (l0.length : Int) < (l0.length : Int) ∧ (↑(l4.length + List.length [List.getD l0 (Int.toNat ((List.getD l1 (n6.toNat) 0 + (l0.length : Int) - 1) % (l0.length : Int))) 0]) : Int) ≤ 1099511627776 ∧ (List.getD l1
 (n6.toNat) (0 : Int) = 0 → (-9223372036854775808 ≤ n6 + 1 ∧ n6 + (1 : Int) ≤ (9223372036854775807 : Int)) ∧ I2 (l4 ++ [List.getD l0 (Int.toNat ((List.getD l1 (n6.toNat) 0 + (l0.length : Int) - 1) % (l0.length : Int))) 0]) n6 (n6 + 1) ∧ m3
 (l4 ++ [List.getD l0 (Int.toNat ((List.getD l1 (n6.toNat) 0 + (l0.length : Int) - 1) % (l0.length : Int))) 0]) n6 (n6 + 1) < m3 l4 n5 n6) ∧ (¬List.getD l1 (n6.toNat) (0 : Int) = 0 → (-9223372036854775808 ≤ n6 + 1 ∧ n6 + (1 : Int) ≤
 (9223372036854775807 : Int)) ∧ I2 (l4 ++ [List.getD l0 (Int.toNat ((List.getD l1 (n6.toNat) 0 + (l0.length : Int) - 1) % (l0.length : Int))) 0]) n5 (n6 + 1) ∧ m3 (l4 ++ [List.getD l0 (Int.toNat ((List.getD l1 (n6.toNat) 0 + (l0.length : Int)
 - 1) % (l0.length : Int))) 0]) n5 (n6 + 1) < m3 l4 n5 n6)) ∧ (¬n6 < (l1.length : Int) → true = LV l0 ∧ (LV l0 = true → (l4, n5) = turnD l0) ∧ (l4.length : Int) ≤ 40)) ∧ (false = LV l0 → false = LV l0 ∧ (LV l0 = true → ([], 0) = turnD l0) ∧
 (↑0 : Int) ≤ 40)
theorem v_i_TurnOf : V_i_TurnOf := by
  unfold V_i_TurnOf
  intro l hz
  refine ⟨hz, fun hv => ⟨hz, ?_⟩, fun hv => ⟨hv, (fun q => by rw [← hv] at q; cases q), by omega⟩⟩
  have h' := hv.symm
  simp only [LV, Bool.and_eq_true, decide_eq_true_eq] at h'
  rintro rs ⟨hrs, h40⟩
  rw [← hv, if_pos rfl] at hrs
  subst hrs
  have hlen := rotsD_len l
  refine ⟨fun out at_ i => 0 ≤ i ∧ i ≤ (rotsD l).length ∧ out = turnOut l ((rotsD l).take i.toNat) ∧ at_ = lastZ ((rotsD l).take i.toNat) 0 0, fun out at_ i => ((rotsD l).length - i).toNat, ?_, ?_⟩ <;> dsimp only
  · exact ⟨by omega, by omega, rfl, rfl⟩
  rintro out at_ i ⟨i0, i1, rfl, rfl⟩
  have hto : (turnOut l ((rotsD l).take i.toNat)).length = min i.toNat (rotsD l).length := by simp [turnOut]
  refine ⟨fun hi => ?_, fun hi => ?_⟩
  · have hx := rotsD_mem (at_mem i0 hi)
    have hst : (rotsD l).take (i + 1).toNat = (rotsD l).take i.toNat ++ [(rotsD l).getD i.toNat 0] := take_lt 0 i0 hi
    have hla : turnOut l ((rotsD l).take (i + 1).toNat) = turnOut l ((rotsD l).take i.toNat) ++ [l.getD (((rotsD l).getD i.toNat 0 + (l.length : Int) - 1) % (l.length : Int)).toNat 0] := by rw [hst]; simp [turnOut]
    have hlz : lastZ ((rotsD l).take (i + 1).toNat) 0 0 = if (rotsD l).getD i.toNat 0 = 0 then i else lastZ ((rotsD l).take i.toNat) 0 0 := by
      rw [hst, lastZ_app]
      simp only [lastZ, List.length_take]
      split
      · omega
      · rfl
    have m0 := Int.emod_nonneg ((rotsD l).getD i.toNat 0 + (l.length : Int) - 1) (b := (l.length : Int)) (by omega)
    have m1 := Int.emod_lt_of_pos ((rotsD l).getD i.toNat 0 + (l.length : Int) - 1) (b := (l.length : Int)) (by omega)
    generalize (rotsD l).getD i.toNat 0 = x at *
    refine ⟨by omega, by omega, by omega, by omega, by omega, by omega, by omega, m0, m1, by simp only [List.length_cons, List.length_nil]; omega, fun h0 => ⟨by omega, ⟨by omega, by omega, hla.symm, by rw [hlz, if_pos h0]⟩, by omega⟩, fun h0 => ⟨by omega, ⟨by omega, by omega, hla.symm, by rw [hlz, if_neg h0]⟩, by omega⟩⟩
  · have hall : (rotsD l).take i.toNat = rotsD l := List.take_of_length_le (by omega)
    rw [hall] at hto ⊢
    exact ⟨hv, fun _ => rfl, by omega⟩
def V_s_TurnOf : Prop :=
  ∀ (l0 : List Int), (l0.length : Int) ≤ 1099511627776 → (l0.length : Int) ≤ 1099511627776 ∧ (true = LV l0 → LV l0 = true ∧ ∀ (l1 : List Int), l1 = rotsD l0 ∧ (l1.length : Int) ≤ 40 → ∃ (I2 : List Int → Int → Int → Prop), ∃ (m3 : List Int →
 Int → Int → Nat), I2 [] 0 0 ∧ ∀ (l4 : List Int) (n5 n6 : Int), I2 l4 n5 n6 → (n6 < (l1.length : Int) → 0 ≤ n6 ∧ n6 < (l1.length : Int) ∧ n6.toNat < l1.length ∧ (-9223372036854775808 ≤ List.getD l1 (n6.toNat) 0 + (l0.length : Int) ∧ List.getD
 l1 (n6.toNat) 0 + (l0.length : Int) ≤ (9223372036854775807 : Int)) ∧ (-9223372036854775808 ≤ List.getD l1 (n6.toNat) 0 + (l0.length : Int) - 1 ∧ List.getD l1 (n6.toNat) 0 + (l0.length : Int) - (1 : Int) ≤ (9223372036854775807 : Int)) ∧ 0 ≤
 List.getD l1 (n6.toNat) 0 + (l0.length : Int) - 1 ∧ 0 < (l0.length : Int) ∧ 0 ≤ (List.getD l1 (n6.toNat) 0 + (l0.length : Int) - 1) % (l0.length : Int) ∧ (List.getD l1 (n6.toNat) 0 + (l0.length : Int) - 1) % (l0.length : Int) < (l0.length :
 Int) ∧ (↑(l4.length + List.length [List.getD l0 (Int.toNat ((List.getD l1 (n6.toNat) 0 + (l0.length : Int) - 1) % (l0.length : Int))) 0]) : Int) ≤ 1099511627776 ∧ 0 ≤ n6 ∧ n6 < (l1.length : Int) ∧ n6.toNat < l1.length ∧ (List.getD l1
 (n6.toNat) (0 : Int) = 0 → (-9223372036854775808 ≤ n6 + 1 ∧ n6 + (1 : Int) ≤ (9223372036854775807 : Int)) ∧ I2 (l4 ++ [List.getD l0 (Int.toNat ((List.getD l1 (n6.toNat) 0 + (l0.length : Int) - 1) % (l0.length : Int))) 0]) n6 (n6 + 1) ∧ m3
 (l4 ++ [List.getD l0 (Int.toNat ((List.getD l1 (n6.toNat) 0 + (l0.length : Int) - 1) % (l0.length : Int))) 0]) n6 (n6 + 1) < m3 l4 n5 n6) ∧ (¬List.getD l1 (n6.toNat) (0 : Int) = 0 → (-9223372036854775808 ≤ n6 + 1 ∧ n6 + (1 : Int) ≤
 (9223372036854775807 : Int)) ∧ I2 (l4 ++ [List.getD l0 (Int.toNat ((List.getD l1 (n6.toNat) 0 + (l0.length : Int) - 1) % (l0.length : Int))) 0]) n5 (n6 + 1) ∧ m3 (l4 ++ [List.getD l0 (Int.toNat ((List.getD l1 (n6.toNat) 0 + (l0.length : Int)
 - 1) % (l0.length : Int))) 0]) n5 (n6 + 1) < m3 l4 n5 n6)) ∧ (¬n6 < (l1.length : Int) → true = LV l0 ∧ (LV l0 = true → (l4, n5) = turnD l0) ∧ (l4.length : Int) ≤ 40)) ∧ (false = LV l0 → false = LV l0 ∧ (LV l0 = true → ([], 0) = turnD l0) ∧
 (↑0 : Int) ≤ 40)
theorem v_s_TurnOf : V_s_TurnOf := by
  unfold V_s_TurnOf
  intro l hz
  refine ⟨hz, fun hv => ⟨hv.symm, ?_⟩, fun hv => ⟨hv, (fun q => by rw [← hv] at q; cases q), by omega⟩⟩
  have h' := hv.symm
  simp only [LV, Bool.and_eq_true, decide_eq_true_eq] at h'
  rintro rs ⟨hrs, h40⟩
  subst hrs
  have hlen := rotsD_len l
  refine ⟨fun out at_ i => 0 ≤ i ∧ i ≤ (rotsD l).length ∧ out = turnOut l ((rotsD l).take i.toNat) ∧ at_ = lastZ ((rotsD l).take i.toNat) 0 0, fun out at_ i => ((rotsD l).length - i).toNat, ?_, ?_⟩ <;> dsimp only
  · exact ⟨by omega, by omega, rfl, rfl⟩
  rintro out at_ i ⟨i0, i1, rfl, rfl⟩
  have hto : (turnOut l ((rotsD l).take i.toNat)).length = min i.toNat (rotsD l).length := by simp [turnOut]
  refine ⟨fun hi => ?_, fun hi => ?_⟩
  · have hx := rotsD_mem (at_mem i0 hi)
    have hst : (rotsD l).take (i + 1).toNat = (rotsD l).take i.toNat ++ [(rotsD l).getD i.toNat 0] := take_lt 0 i0 hi
    have hla : turnOut l ((rotsD l).take (i + 1).toNat) = turnOut l ((rotsD l).take i.toNat) ++ [l.getD (((rotsD l).getD i.toNat 0 + (l.length : Int) - 1) % (l.length : Int)).toNat 0] := by rw [hst]; simp [turnOut]
    have hlz : lastZ ((rotsD l).take (i + 1).toNat) 0 0 = if (rotsD l).getD i.toNat 0 = 0 then i else lastZ ((rotsD l).take i.toNat) 0 0 := by
      rw [hst, lastZ_app]
      simp only [lastZ, List.length_take]
      split
      · omega
      · rfl
    have m0 := Int.emod_nonneg ((rotsD l).getD i.toNat 0 + (l.length : Int) - 1) (b := (l.length : Int)) (by omega)
    have m1 := Int.emod_lt_of_pos ((rotsD l).getD i.toNat 0 + (l.length : Int) - 1) (b := (l.length : Int)) (by omega)
    generalize (rotsD l).getD i.toNat 0 = x at *
    refine ⟨by omega, by omega, by omega, by omega, by omega, by omega, by omega, m0, m1, by simp only [List.length_cons, List.length_nil]; omega, by omega, by omega, by omega, fun h0 => ⟨by omega, ⟨by omega, by omega, hla.symm, by rw [hlz, if_pos h0]⟩, by omega⟩, fun h0 => ⟨by omega, ⟨by omega, by omega, hla.symm, by rw [hlz, if_neg h0]⟩, by omega⟩⟩
  · have hall : (rotsD l).take i.toNat = rotsD l := List.take_of_length_le (by omega)
    rw [hall] at hto ⊢
    exact ⟨hv, fun _ => rfl, by omega⟩
end Go.Proofs.YtfnmhnbadepooaaGreatDoor
