/-
  The conditions of functions, proved: v_front.
-/
import Derived.Test.YtfnmhnbadepooaaGreatDoorM
set_option linter.unusedVariables false
set_option linter.unusedSimpArgs false
open Go Go.Ax Go.Mx
namespace Go.Proofs.YtfnmhnbadepooaaGreatDoor
def V_i_moved : Prop :=
  ∀ (l0 : List Int), ((l0.length : Int) ≤ 1099511627776 ∧ true = false → (l0.length : Int) ≤ 1099511627776 ∧ (true = LV l0 → ∃ (I1 : List Int → Int → List Int → Prop), ∃ (m2 : List Int → Int → List Int → Nat), I1 [] 0 [0, 1, 2, 3, 4, 5, 6, 7]
 ∧ ∀ (l3 : List Int) (n4 : Int) (l5 : List Int), I1 l3 n4 l5 → (n4 < (l0.length : Int) → 0 ≤ n4 ∧ n4 < (l0.length : Int) ∧ 0 ≤ List.getD l0 (n4.toNat) 0 ∧ List.getD l0 (n4.toNat) 0 < (l5.length : Int) ∧ Int.toNat (List.getD l0 (n4.toNat) 0) <
 l5.length ∧ (-9223372036854775808 ≤ List.getD l0 (n4.toNat) 0 + 1 ∧ List.getD l0 (n4.toNat) 0 + (1 : Int) ≤ (9223372036854775807 : Int)) ∧ (0 : Int) ≤ 1 ∧ 1 ≤ List.getD l0 (n4.toNat) 0 + 1 ∧ List.getD l0 (n4.toNat) 0 + 1 ≤ (l5.length : Int)
 ∧ (0 : Int) ≤ 0 ∧ 0 ≤ List.getD l0 (n4.toNat) 0 ∧ List.getD l0 (n4.toNat) 0 ≤ (l5.length : Int) ∧ Int.toNat 1 + Int.toNat (List.getD l0 (n4.toNat) 0 + 1 - 1) ≤ l5.length ∧ (0 : Int) ≤ 0 ∧ 0 < (↑(List.length (splice l5 (Int.toNat 1)
 (List.take (Int.toNat (List.getD l0 (n4.toNat) 0 + 1 - 1)) (List.take (Int.toNat (List.getD l0 (n4.toNat) 0 - 0)) (List.drop (Int.toNat 0) l5))))) : Int) ∧ Int.toNat 0 < List.length (splice l5 (Int.toNat 1) (List.take (Int.toNat (List.getD
 l0 (n4.toNat) 0 + 1 - 1)) (List.take (Int.toNat (List.getD l0 (n4.toNat) 0 - 0)) (List.drop (Int.toNat 0) l5)))) ∧ (↑(l3.length + List.length [List.getD l5 (Int.toNat (List.getD l0 (n4.toNat) 0)) 0]) : Int) ≤ 1099511627776 ∧
 (-9223372036854775808 ≤ n4 + 1 ∧ n4 + (1 : Int) ≤ (9223372036854775807 : Int)) ∧ I1 (l3 ++ [List.getD l5 (Int.toNat (List.getD l0 (n4.toNat) 0)) 0]) (n4 + 1) (List.set (splice l5 (Int.toNat 1) (List.take (Int.toNat (List.getD l0 (n4.toNat) 0
 + 1 - 1)) (List.take (Int.toNat (List.getD l0 (n4.toNat) 0 - 0)) (List.drop (Int.toNat 0) l5)))) (Int.toNat 0) (List.getD l5 (Int.toNat (List.getD l0 (n4.toNat) 0)) 0)) ∧ m2 (l3 ++ [List.getD l5 (Int.toNat (List.getD l0 (n4.toNat) 0)) 0])
 (n4 + 1) (List.set (splice l5 (Int.toNat 1) (List.take (Int.toNat (List.getD l0 (n4.toNat) 0 + 1 - 1)) (List.take (Int.toNat (List.getD l0 (n4.toNat) 0 - 0)) (List.drop (Int.toNat 0) l5)))) (Int.toNat 0) (List.getD l5 (Int.toNat (List.getD
 l0 (n4.toNat) 0)) 0)) < m2 l3 n4 l5) ∧ (¬n4 < (l0.length : Int) → l3 = frontD l0 ∧ (l3.length : Int) ≤ 40)) ∧ (false = LV l0 → [] = frontD l0 ∧ (↑0 : Int) ≤ 40)) ∧ ((l0.length : Int) ≤ 1099511627776 ∧ false = false → (l0.length : Int) ≤
 1099511627776 ∧ (true = LV l0 → ∃ (I6 : List Int → Int → List Int → Prop), ∃ (m7 : List Int → Int → List Int → Nat), I6 [] 0 [0, 1, 2, 3, 4, 5, 6, 7] ∧ ∀ (l8 : List Int) (n9 : Int) (l10 : List Int), I6 l8 n9 l10 → (n9 < (l0.length : Int) → 0
 ≤ n9 ∧ n9 < (l0.length : Int) ∧ ∃ (I11 : Int → Prop), ∃ (m12 : Int → Nat), I11 0 ∧ ∀ (n13 : Int), I11 n13 → 0 ≤ n13 ∧ n13 < (l10.length : Int) ∧ n13.toNat < l10.length ∧ (List.getD l10 (n13.toNat) 0 ≠ List.getD l0 (n9.toNat) 0 →
 (-9223372036854775808 ≤ n13 + 1 ∧ n13 + (1 : Int) ≤ (9223372036854775807 : Int)) ∧ I11 (n13 + 1) ∧ m12 (n13 + 1) < m12 n13) ∧ (¬List.getD l10 (n13.toNat) 0 ≠ List.getD l0 (n9.toNat) 0 → 0 ≤ n13 ∧ n13 < (l10.length : Int) ∧ n13.toNat <
 l10.length ∧ (-9223372036854775808 ≤ n13 + 1 ∧ n13 + (1 : Int) ≤ (9223372036854775807 : Int)) ∧ (0 : Int) ≤ 1 ∧ 1 ≤ n13 + 1 ∧ n13 + 1 ≤ (l10.length : Int) ∧ (0 : Int) ≤ 0 ∧ 0 ≤ n13 ∧ n13 ≤ (l10.length : Int) ∧ Int.toNat 1 + Int.toNat (n13 +
 1 - 1) ≤ l10.length ∧ (0 : Int) ≤ 0 ∧ 0 < (↑(List.length (splice l10 (Int.toNat 1) (List.take (Int.toNat (n13 + 1 - 1)) (List.take (Int.toNat (n13 - 0)) (List.drop (Int.toNat 0) l10))))) : Int) ∧ Int.toNat 0 < List.length (splice l10
 (Int.toNat 1) (List.take (Int.toNat (n13 + 1 - 1)) (List.take (Int.toNat (n13 - 0)) (List.drop (Int.toNat 0) l10)))) ∧ (↑(l8.length + List.length [n13]) : Int) ≤ 1099511627776 ∧ (-9223372036854775808 ≤ n9 + 1 ∧ n9 + (1 : Int) ≤
 (9223372036854775807 : Int)) ∧ I6 (l8 ++ [n13]) (n9 + 1) (List.set (splice l10 (Int.toNat 1) (List.take (Int.toNat (n13 + 1 - 1)) (List.take (Int.toNat (n13 - 0)) (List.drop (Int.toNat 0) l10)))) (Int.toNat 0) (List.getD l10 (n13.toNat) 0))
 ∧ m7 (l8 ++ [n13]) (n9 + 1) (List.set (splice l10 (Int.toNat 1) (List.take (Int.toNat (n13 + 1 - 1)) (List.take (Int.toNat (n13 - 0)) (List.drop (Int.toNat 0) l10)))) (Int.toNat 0) (List.getD l10 (n13.toNat) 0)) < m7 l8 n9 l10)) ∧ (¬n9 <
 (l0.length : Int) → l8 = frontD l0 ∧ (l8.length : Int) ≤ 40)) ∧ (false = LV l0 → [] = frontD l0 ∧ (↑0 : Int) ≤ 40))
theorem v_i_moved : V_i_moved := by
  unfold V_i_moved
  intro l
  refine ⟨fun q => (by cases q.2), ?_⟩
  rintro ⟨hz, _⟩
  refine ⟨hz, fun hv => ?_, fun hv => ⟨by unfold frontD; rw [← hv]; rfl, by omega⟩⟩
  have hfd : frontD l = frontN l order8 := if_pos hv.symm
  have h' := hv.symm
  simp only [LV, Bool.and_eq_true, decide_eq_true_eq] at h'
  rw [hfd]
  refine ⟨fun out i o => 0 ≤ i ∧ i ≤ l.length ∧ full8 o ∧ (out.length : Int) = i ∧ out ++ frontN (l.drop i.toNat) o = frontN l order8, fun out i o => (l.length - i).toNat, ?_, ?_⟩ <;> dsimp only
  · exact ⟨by omega, by omega, full8_order, by simp, by simp; rfl⟩
  rintro out i o ⟨i0, i1, ho, hlen, hI⟩
  have ho8 := ho.1
  refine ⟨fun hi => ⟨by omega, hi, ?_⟩, fun hi => ⟨by rw [drop_ge hi, frontN, List.append_nil] at hI; exact hI, by omega⟩⟩
  have hx := allIn_iff.1 h'.2 _ (at_mem i0 hi)
  rw [front_step i0 hi] at hI
  have hfull := full8_mv ho hx.1 hx.2
  obtain ⟨q1, q2⟩ := fpos8_mem (ho.2 _ hx.1 hx.2)
  generalize l.getD i.toNat 0 = x at *
  refine ⟨fun n => 0 ≤ n ∧ n ≤ fpos8 x o, fun n => (8 - n).toNat, ?_, ?_⟩ <;> dsimp only
  · exact ⟨by omega, by omega⟩
  rintro n ⟨n0, n1⟩
  refine ⟨by omega, by omega, by omega, fun hne => ?_, fun he => ?_⟩
  · have : n ≠ fpos8 x o := fun e => hne (by rw [e, Int.toNat_natCast]; exact q2)
    exact ⟨by omega, ⟨by omega, by omega⟩, by omega⟩
  · have he := Decidable.not_not.1 he
    have hn : n = (fpos8 x o : Int) := by
      by_cases h : n.toNat < fpos8 x o
      · exact absurd he (fpos8_before h)
      · omega
    have hs := mv_splice (o := o) n0 (by omega)
    have hsl := mv_splice_len (o := o) n0 (by omega)
    rw [hs, hsl]
    have hnn : n.toNat = fpos8 x o := by omega
    rw [hnn]
    refine ⟨by omega, by omega, by omega, by omega, by omega, by omega, by omega, by omega, by omega, by omega, by omega, by omega, by omega, by omega, by simp only [List.length_cons, List.length_nil]; omega, by omega, ⟨by omega, by omega, hfull, by rw [List.length_append]; simp only [List.length_cons, List.length_nil]; omega, ?_⟩, by omega⟩
    rw [List.append_assoc, hn]; exact hI
def V_i_FrontOf : Prop :=
  ∀ (l0 : List Int), (l0.length : Int) ≤ 1099511627776 → ((l0.length : Int) ≤ 1099511627776 ∧ false = false) ∧ ∀ (l1 : List Int), l1 = frontD l0 ∧ (l1.length : Int) ≤ 40 → l1 = frontD l0 ∧ (l1.length : Int) ≤ 40
theorem v_i_FrontOf : V_i_FrontOf := by
  unfold V_i_FrontOf
  intro l hz
  exact ⟨⟨hz, rfl⟩, fun r h => h⟩
def V_s_l4Place : Prop :=
  ∀ (l0 : List Int) (n1 : Int), full8 l0 ∧ 0 ≤ n1 ∧ n1 ≤ 7 → ∃ (I2 : Int → Prop), ∃ (m3 : Int → Nat), I2 0 ∧ ∀ (n4 : Int), I2 n4 → 0 ≤ n4 ∧ n4 < (l0.length : Int) ∧ (List.getD l0 (n4.toNat) 0 ≠ n1 → (-9223372036854775808 ≤ n4 + 1 ∧ n4 + (1 :
 Int) ≤ (9223372036854775807 : Int)) ∧ I2 (n4 + 1) ∧ m3 (n4 + 1) < m3 n4) ∧ (¬List.getD l0 (n4.toNat) 0 ≠ n1 → n4 = (↑(fpos8 n1 l0) : Int))
theorem v_s_l4Place : V_s_l4Place := by
  unfold V_s_l4Place
  rintro o x ⟨ho, h0, h7⟩
  have ho8 := ho.1
  obtain ⟨q1, q2⟩ := fpos8_mem (ho.2 _ h0 h7)
  refine ⟨fun n => 0 ≤ n ∧ n ≤ fpos8 x o, fun n => (8 - n).toNat, ?_, ?_⟩ <;> dsimp only
  · exact ⟨by omega, by omega⟩
  rintro n ⟨n0, n1⟩
  refine ⟨by omega, by omega, fun hne => ?_, fun he => ?_⟩
  · have : n ≠ fpos8 x o := fun e => hne (by rw [e, Int.toNat_natCast]; exact q2)
    exact ⟨by omega, ⟨by omega, by omega⟩, by omega⟩
  · have he := Decidable.not_not.1 he
    by_cases h : n.toNat < fpos8 x o
    · exact absurd he (fpos8_before h)
    · omega
def V_s_l4Front : Prop :=
  ∀ (l0 : List Int) (n1 : Int), full8 l0 ∧ 0 ≤ n1 ∧ n1 ≤ 7 → 0 ≤ n1 ∧ n1 < (l0.length : Int) ∧ ∃ (I2 : List Int → Int → Prop), ∃ (m3 : List Int → Int → Nat), I2 [List.getD l0 (n1.toNat) 0] 0 ∧ ∀ (l4 : List Int) (n5 : Int), I2 l4 n5 → (n5 <
 (l0.length : Int) → (n5 ≠ n1 → 0 ≤ n5 ∧ n5 < (l0.length : Int) ∧ (↑(l4.length + List.length [List.getD l0 (n5.toNat) 0]) : Int) ≤ 1099511627776 ∧ (-9223372036854775808 ≤ n5 + 1 ∧ n5 + (1 : Int) ≤ (9223372036854775807 : Int)) ∧ I2 (l4 ++
 [List.getD l0 (n5.toNat) 0]) (n5 + 1) ∧ m3 (l4 ++ [List.getD l0 (n5.toNat) 0]) (n5 + 1) < m3 l4 n5) ∧ (¬n5 ≠ n1 → (-9223372036854775808 ≤ n5 + 1 ∧ n5 + (1 : Int) ≤ (9223372036854775807 : Int)) ∧ I2 l4 (n5 + 1) ∧ m3 l4 (n5 + 1) < m3 l4 n5)) ∧
 (¬n5 < (l0.length : Int) → l4 = mvF l0 (n1.toNat))
theorem v_s_l4Front : V_s_l4Front := by
  unfold V_s_l4Front
  rintro o a ⟨ho, h0, h7⟩
  have ho8 := ho.1
  refine ⟨h0, by omega, ?_⟩
  refine ⟨fun r i => 0 ≤ i ∧ i ≤ 8 ∧ r = o.getD a.toNat 0 :: (if i ≤ a then o.take i.toNat else o.take a.toNat ++ (o.take i.toNat).drop (a.toNat + 1)), fun r i => (8 - i).toNat, ?_, ?_⟩ <;> dsimp only
  · exact ⟨by omega, by omega, by rw [if_pos h0]; rfl⟩
  rintro r i ⟨i0, i1, rfl⟩
  have hlen : (o.getD a.toNat 0 :: (if i ≤ a then o.take i.toNat else o.take a.toNat ++ (o.take i.toNat).drop (a.toNat + 1))).length ≤ 20 := by
    split
    · simp only [List.length_cons, List.length_take]; omega
    · simp only [List.length_cons, List.length_append, List.length_drop, List.length_take]; omega
  refine ⟨fun hi => ⟨fun hne => ?_, fun he => ?_⟩, fun hi => ?_⟩
  · refine ⟨i0, hi, by simp only [List.length_cons, List.length_nil] at hlen ⊢; omega, by omega, ⟨by omega, by omega, ?_⟩, by omega⟩
    have hst : o.take (i + 1).toNat = o.take i.toNat ++ [o.getD i.toNat 0] := take_lt 0 i0 hi
    by_cases hia : i ≤ a
    · rw [if_pos hia, if_pos (by omega), hst]; rfl
    · rw [if_neg hia, if_neg (by omega), hst, List.drop_append_of_le_length (by rw [List.length_take]; omega)]
      simp
  · have he := Decidable.not_not.1 he
    refine ⟨by omega, ⟨by omega, by omega, ?_⟩, by omega⟩
    rw [if_pos (by omega), if_neg (by omega), he]
    have : (o.take (a + 1).toNat).drop (a.toNat + 1) = [] := List.drop_eq_nil_of_le (by rw [List.length_take]; omega)
    rw [this, List.append_nil]
  · rw [if_neg (by omega), take_ge hi]
    rfl
def V_s_FrontOf : Prop :=
  ∀ (l0 : List Int), (l0.length : Int) ≤ 1099511627776 → True ∧ ∀ (l1 : List Int), l1 = [0, 1, 2, 3, 4, 5, 6, 7] → ∃ (I2 : List Int → List Int → Int → Prop), ∃ (m3 : List Int → List Int → Int → Nat), I2 [] l1 0 ∧ ∀ (l4 l5 : List Int) (n6 :
 Int), I2 l4 l5 n6 → (n6 < (l0.length : Int) → (l0.length : Int) ≤ 1099511627776 ∧ (true = LV l0 → 0 ≤ n6 ∧ n6 < (l0.length : Int) ∧ (full8 l5 ∧ 0 ≤ List.getD l0 (n6.toNat) 0 ∧ List.getD l0 (n6.toNat) (0 : Int) ≤ 7) ∧ ∀ (n7 : Int), n7 =
 (↑(fpos8 (List.getD l0 (n6.toNat) 0) l5) : Int) → (↑(l4.length + List.length [n7]) : Int) ≤ 1099511627776 ∧ (full8 l5 ∧ 0 ≤ n7 ∧ n7 ≤ 7) ∧ ∀ (l8 : List Int), l8 = mvF l5 (n7.toNat) → (-9223372036854775808 ≤ n6 + 1 ∧ n6 + (1 : Int) ≤
 (9223372036854775807 : Int)) ∧ I2 (l4 ++ [n7]) l8 (n6 + 1) ∧ m3 (l4 ++ [n7]) l8 (n6 + 1) < m3 l4 l5 n6) ∧ (false = LV l0 → l4 = frontD l0 ∧ (l4.length : Int) ≤ 40)) ∧ (¬n6 < (l0.length : Int) → l4 = frontD l0 ∧ (l4.length : Int) ≤ 40)
theorem v_s_FrontOf : V_s_FrontOf := by
  unfold V_s_FrontOf
  intro l hz
  refine ⟨trivial, ?_⟩
  rintro o0 rfl
  refine ⟨fun out o i => 0 ≤ i ∧ i ≤ l.length ∧ full8 o ∧ (out.length : Int) = i ∧ (0 < i → LV l = true) ∧ (LV l = true → out ++ frontN (l.drop i.toNat) o = frontN l order8), fun out o i => (l.length - i).toNat, ?_, ?_⟩ <;> dsimp only
  · exact ⟨by omega, by omega, full8_order, by simp, fun q => by omega, fun _ => by simp; rfl⟩
  rintro out o i ⟨i0, i1, ho, hlen, hpos, hI⟩
  have ho8 := ho.1
  refine ⟨fun hi => ⟨hz, fun hv => ?_, fun hv => ?_⟩, fun hi => ?_⟩
  · have h' := hv.symm
    simp only [LV, Bool.and_eq_true, decide_eq_true_eq] at h'
    have hI := hI hv.symm
    have hx := allIn_iff.1 h'.2 _ (at_mem i0 hi)
    rw [front_step i0 hi] at hI
    have hfull := full8_mv ho hx.1 hx.2
    obtain ⟨q1, q2⟩ := fpos8_mem (ho.2 _ hx.1 hx.2)
    generalize l.getD i.toNat 0 = x at *
    refine ⟨i0, hi, ⟨ho, hx.1, hx.2⟩, ?_⟩
    rintro n rfl
    refine ⟨by simp only [List.length_cons, List.length_nil]; omega, ⟨ho, by omega, by omega⟩, ?_⟩
    rintro o' rfl
    rw [Int.toNat_natCast]
    exact ⟨by omega, ⟨by omega, by omega, hfull, by rw [List.length_append]; simp only [List.length_cons, List.length_nil]; omega, fun _ => hv.symm, fun _ => by rw [List.append_assoc]; exact hI⟩, by omega⟩
  · have hf : LV l = false := hv.symm
    have hi0 : i = 0 := by
      by_cases h : 0 < i
      · rw [hpos h] at hf; cases hf
      · omega
    have : out = [] := List.eq_nil_of_length_eq_zero (by omega)
    subst this
    unfold frontD
    rw [hf]
    exact ⟨rfl, by simp⟩
  · by_cases hv : LV l = true
    · have h' := hv
      simp only [LV, Bool.and_eq_true, decide_eq_true_eq] at h'
      have hI := hI hv
      rw [drop_ge hi, frontN, List.append_nil] at hI
      unfold frontD
      rw [if_pos hv]
      exact ⟨hI, by omega⟩
    · have hi0 : i = 0 := by
        by_cases h : 0 < i
        · exact absurd (hpos h) hv
        · omega
      have : out = [] := List.eq_nil_of_length_eq_zero (by omega)
      subst this
      unfold frontD
      rw [if_neg hv]
      exact ⟨rfl, by simp⟩
def V_s_RunsOf : Prop :=
  ∀ (l0 : List Int), (l0.length : Int) ≤ 1099511627776 → (l0.length : Int) ≤ 1099511627776 ∧ (true = LV l0 → LV l0 = true ∧ ∀ (l1 : List (Int × Int)), l1 = runs l0 ∧ (l1.length : Int) ≤ 40 → l1 = runsD l0 ∧ (l1.length : Int) ≤ 40) ∧ (false =
 LV l0 → [] = runsD l0 ∧ (↑0 : Int) ≤ 40)
theorem v_s_RunsOf : V_s_RunsOf := by
  unfold V_s_RunsOf
  intro l hz
  refine ⟨hz, fun hv => ⟨hv.symm, ?_⟩, fun hv => ⟨by unfold runsD; rw [← hv]; rfl, by omega⟩⟩
  rintro r ⟨rfl, h⟩
  exact ⟨by unfold runsD; rw [← hv]; rfl, h⟩
end Go.Proofs.YtfnmhnbadepooaaGreatDoor
