/-
  The conditions of functions, proved: d_delta.
-/
import Derived.Test.YthongcikinnjlaaM
set_option linter.unusedVariables false
set_option linter.unusedSimpArgs false
open Go Go.Ax Go.Mx
namespace Go.Proofs.Ythongcikinnjlaa
def V_s_l41Same : Prop :=
  ∀ (l0 : List Int) (n1 : Int) (l2 : List Int) (n3 : Int), (↑(List.length l0) : Int) ≤ 1099511627776 ∧ (↑(List.length l2) : Int) ≤ 1099511627776 ∧ 0 ≤ n1 ∧ n1 ≤ (↑(List.length l0) : Int) ∧ 0 ≤ n3 ∧ n3 ≤ (↑(List.length l2) : Int) → ∃ (I4 : Int
    → Prop), ∃ (m5 : Int → Nat), I4 0 ∧ ∀ (n6 : Int), I4 n6 → (-9223372036854775808 ≤ n1 + n6 ∧ n1 + n6 ≤ 9223372036854775807) ∧ (n1 + n6 < (↑(List.length l0) : Int) → (-9223372036854775808 ≤ n3 + n6 ∧ n3 + n6 ≤ 9223372036854775807) ∧ (n3 + n6 <
    (↑(List.length l2) : Int) → (-9223372036854775808 ≤ n1 + n6 ∧ n1 + n6 ≤ 9223372036854775807) ∧ 0 ≤ n1 + n6 ∧ n1 + n6 < (↑(List.length l0) : Int) ∧ (-9223372036854775808 ≤ n3 + n6 ∧ n3 + n6 ≤ 9223372036854775807) ∧ 0 ≤ n3 + n6 ∧ n3 + n6 <
    (↑(List.length l2) : Int) ∧ (List.getD l0 (Int.toNat (n1 + n6)) 0 = List.getD l2 (Int.toNat (n3 + n6)) 0 → (-9223372036854775808 ≤ n6 + 1 ∧ n6 + (1 : Int) ≤ 9223372036854775807) ∧ I4 (n6 + 1) ∧ m5 (n6 + 1) < m5 n6) ∧ (¬List.getD l0 (Int.toNat (n1 +
    n6)) 0 = List.getD l2 (Int.toNat (n3 + n6)) 0 → n6 = cp (List.drop (Int.toNat n1) l0) (List.drop (Int.toNat n3) l2))) ∧ (¬n3 + n6 < (↑(List.length l2) : Int) → n6 = cp (List.drop (Int.toNat n1) l0) (List.drop (Int.toNat n3) l2))) ∧ (¬n1 + n6
    < (↑(List.length l0) : Int) → n6 = cp (List.drop (Int.toNat n1) l0) (List.drop (Int.toNat n3) l2))
theorem v_s_l41Same : V_s_l41Same := by
  unfold V_s_l41Same
  rintro o f l a ⟨hz, hz', hf0, hf1, ha0, ha1⟩
  refine ⟨fun n => 0 ≤ n ∧ f + n ≤ o.length ∧ a + n ≤ l.length ∧ cp (o.drop f.toNat) (l.drop a.toNat) = n + cp (o.drop (f + n).toNat) (l.drop (a + n).toNat), fun n => (o.length - n).toNat, ?_, ?_⟩ <;> dsimp only
  · simp; omega
  rintro n ⟨h0, h1, h2, h3⟩
  refine ⟨by omega, fun hlt => ⟨by omega, fun hlt' => ?_, fun hge => ?_⟩, fun hge => ?_⟩
  · rw [cp_step (by omega) hlt (by omega) hlt'] at h3
    rw [show f + (n + 1) = f + n + 1 by omega, show a + (n + 1) = a + n + 1 by omega]
    refine ⟨by omega, by omega, hlt, by omega, by omega, hlt', fun he => ?_, fun he => ?_⟩
    · rw [if_pos he] at h3
      exact ⟨by omega, ⟨by omega, by omega, by omega, by omega⟩, by omega⟩
    · rw [if_neg he] at h3
      omega
  · rw [cp_end (.inr hge)] at h3
    omega
  · rw [cp_end (.inl hge)] at h3
    omega
def V_s_l41Best : Prop :=
  ∀ (l0 l1 : List Int) (n2 : Int), (↑(List.length l0) : Int) ≤ 1099511627776 ∧ (↑(List.length l1) : Int) ≤ 1099511627776 ∧ 0 ≤ n2 ∧ n2 ≤ (↑(List.length l1) : Int) → ∃ (I3 : Int → Int → Int → Int → Prop), ∃ (m4 : Int → Int → Int → Int → Nat),
    I3 0 0 0 0 ∧ ∀ (n5 n6 n7 n8 : Int), I3 n5 n6 n7 n8 → (n5 < (↑(List.length l0) : Int) → ((↑(List.length l0) : Int) ≤ 1099511627776 ∧ (↑(List.length l1) : Int) ≤ 1099511627776 ∧ 0 ≤ n5 ∧ n5 ≤ (↑(List.length l0) : Int) ∧ 0 ≤ n2 ∧ n2 ≤
    (↑(List.length l1) : Int)) ∧ ∀ (n9 : Int), n9 = cp (List.drop (Int.toNat n5) l0) (List.drop (Int.toNat n2) l1) → (2 ≤ n9 → (n8 < n9 → (-9223372036854775808 ≤ n5 + 1 ∧ n5 + (1 : Int) ≤ 9223372036854775807) ∧ I3 (n5 + 1) 0 n5 n9 ∧ m4 (n5 + 1) 0 n5 n9
    < m4 n5 n6 n7 n8) ∧ (¬n8 < n9 → (-9223372036854775808 ≤ n5 + 1 ∧ n5 + (1 : Int) ≤ 9223372036854775807) ∧ I3 (n5 + 1) n6 n7 n8 ∧ m4 (n5 + 1) n6 n7 n8 < m4 n5 n6 n7 n8)) ∧ (¬2 ≤ n9 → (-9223372036854775808 ≤ n5 + 1 ∧ n5 + (1 : Int) ≤ 9223372036854775807) ∧ I3
    (n5 + 1) n6 n7 n8 ∧ m4 (n5 + 1) n6 n7 n8 < m4 n5 n6 n7 n8)) ∧ (¬n5 < (↑(List.length l0) : Int) → (n6, n7, n8) = bestFrom (List.drop (Int.toNat n2) l1) l0 0 (0, 0, 0))
theorem v_s_l41Best : V_s_l41Best := by
  unfold V_s_l41Best
  rintro o l a ⟨hz, hz', h0, h1⟩
  refine ⟨fun f b1 b2 b3 => 0 ≤ f ∧ f ≤ o.length ∧ bestFrom (l.drop a.toNat) (o.drop f.toNat) f (b1, b2, b3) = bestFrom (l.drop a.toNat) o 0 (0, 0, 0), fun f b1 b2 b3 => (o.length - f).toNat, ?_, ?_⟩ <;> dsimp only
  · simp
  rintro f b1 b2 b3 ⟨hf0, hf1, hI⟩
  refine ⟨fun hlt => ⟨by omega, ?_⟩, fun hge => ?_⟩
  · rintro n rfl
    rw [best_step hf0 hlt] at hI
    refine ⟨fun h2 => ⟨fun h3 => ?_, fun h3 => ?_⟩, fun h2 => ?_⟩
    · rw [if_pos ⟨h2, h3⟩] at hI
      exact ⟨by omega, ⟨by omega, by omega, hI⟩, by omega⟩
    · rw [if_neg (fun h => h3 h.2)] at hI
      exact ⟨by omega, ⟨by omega, by omega, hI⟩, by omega⟩
    · rw [if_neg (fun h => h2 h.1)] at hI
      exact ⟨by omega, ⟨by omega, by omega, hI⟩, by omega⟩
  · rw [best_end hge] at hI
    exact hI
def V_s_DeltaOf : Prop :=
  ∀ (l0 l1 : List Int), (↑(List.length l0) : Int) ≤ 1099511627776 ∧ (↑(List.length l1) : Int) ≤ 1099511627776 → ∃ (I2 : List (Int × Int × Int) → Int → Prop), ∃ (m3 : List (Int × Int × Int) → Int → Nat), I2 [] 0 ∧ ∀ (l4 : List (Int × Int ×
    Int)) (n5 : Int), I2 l4 n5 → (n5 < (↑(List.length l1) : Int) → (↑(List.length l0) : Int) ≤ 1099511627776 ∧ (true = LV l0 → (↑(List.length l1) : Int) ≤ 1099511627776 ∧ (true = LV l1 → ((↑(List.length l0) : Int) ≤ 1099511627776 ∧
    (↑(List.length l1) : Int) ≤ 1099511627776 ∧ 0 ≤ n5 ∧ n5 ≤ (↑(List.length l1) : Int)) ∧ ∀ (n6 n7 n8 : Int), (n6, n7, n8) = bestFrom (List.drop (Int.toNat n5) l1) l0 0 (0, 0, 0) → (n8 = 0 → 0 ≤ n5 ∧ n5 < (↑(List.length l1) : Int) ∧
    (↑(List.length l4 + List.length [(List.getD l1 (Int.toNat n5) 0, n7, n8)]) : Int) ≤ 1099511627776 ∧ (-9223372036854775808 ≤ n5 + max n8 1 ∧ n5 + max n8 (1 : Int) ≤ 9223372036854775807) ∧ I2 (l4 ++ [(List.getD l1 (Int.toNat n5) 0, n7, n8)]) (n5 + max
    n8 1) ∧ m3 (l4 ++ [(List.getD l1 (Int.toNat n5) 0, n7, n8)]) (n5 + max n8 1) < m3 l4 n5) ∧ (¬n8 = 0 → (↑(List.length l4 + List.length [(n6, n7, n8)]) : Int) ≤ 1099511627776 ∧ (-9223372036854775808 ≤ n5 + max n8 1 ∧ n5 + max n8 (1 : Int) ≤ 9223372036854775807) ∧ I2 (l4 ++ [(n6, n7, n8)]) (n5 + max n8 1) ∧ m3 (l4 ++ [(n6, n7, n8)]) (n5 + max n8 1) < m3 l4 n5)) ∧ (false = LV l1 → l4 = deltaD l0 l1 ∧ (↑(List.length l4) : Int) ≤ 40)) ∧ (false = LV l0 → l4 = deltaD l0 l1 ∧
    (↑(List.length l4) : Int) ≤ 40)) ∧ (¬n5 < (↑(List.length l1) : Int) → l4 = deltaD l0 l1 ∧ (↑(List.length l4) : Int) ≤ 40)
theorem v_s_DeltaOf : V_s_DeltaOf := by
  unfold V_s_DeltaOf
  rintro o l ⟨hz, hz'⟩
  have fin : ∀ x, x = deltaD o l → x = deltaD o l ∧ (x.length : Int) ≤ 40 := fun x h => ⟨h, by rw [h]; exact deltaD_len o l⟩
  have dt : LV o = true ∧ LV l = true → deltaD o l = deltaOf o l := fun h => by unfold deltaD; rw [if_pos h]
  have df : ¬ (LV o = true ∧ LV l = true) → deltaD o l = [] := fun h => by unfold deltaD; rw [if_neg h]
  refine ⟨fun out a => 0 ≤ a ∧ a ≤ l.length ∧ (out.length : Int) ≤ a ∧ (0 < a → LV o = true ∧ LV l = true) ∧ (LV o = true ∧ LV l = true → out ++ deltaOf o (l.drop a.toNat) = deltaOf o l) ∧ (a = 0 → out = []), fun out a => (l.length - a).toNat, ?_, ?_⟩ <;> dsimp only
  · simp
  rintro out a ⟨h0, h1, h2, h3, h4, h5⟩
  refine ⟨fun hlt => ⟨hz, fun hv => ?_, fun hv => ?_⟩, fun hge => ?_⟩
  · refine ⟨hz', fun hv' => ?_, fun hv' => ?_⟩
    · have h6 := h4 ⟨hv.symm, hv'.symm⟩
      rw [delta_step h0 hlt] at h6
      have hp := piece_le (old := o) h0 hlt
      refine ⟨⟨hz, hz', h0, h1⟩, ?_⟩
      rintro s f m hb
      have hb' : pieceAt o (l.getD a.toNat 0) (l.drop (a + 1).toNat) = orSym (l.getD a.toNat 0) (s, f, m) := by
        unfold pieceAt; rw [← drop_lt 0 h0 hlt, ← hb]
      rw [hb'] at hp h6
      have hll := LV_len hv'.symm
      refine ⟨fun hm => ?_, fun hm => ?_⟩
      · have hm' : m = 0 := hm
        subst hm'
        have hf : f = 0 := by
          have hzz := bestFrom_zero (t := l.drop a.toNat) o 0 (0, 0, 0) (by simp)
          rw [← hb] at hzz
          have := hzz rfl
          simp only [Prod.mk.injEq] at this
          exact this.2.1
        subst hf
        simp only [orSym, if_true] at hp h6
        refine ⟨h0, hlt, by simp; omega, by omega, ⟨by omega, by omega, by simp; omega, fun _ => ⟨hv.symm, hv'.symm⟩, fun _ => by simpa using h6, fun h => by omega⟩, by omega⟩
      · have hm' : ¬ m = 0 := hm
        simp only [orSym, if_neg hm'] at hp h6
        refine ⟨by simp; omega, by omega, ⟨by omega, by omega, by simp; omega, fun _ => ⟨hv.symm, hv'.symm⟩, fun _ => by simpa using h6, fun h => by omega⟩, by omega⟩
    · have : ¬ 0 < a := fun h => by have := (h3 h).2; rw [← hv'] at this; cases this
      refine fin _ ?_
      rw [h5 (by omega), df (by rw [← hv']; simp)]
  · have : ¬ 0 < a := fun h => by have := (h3 h).1; rw [← hv] at this; cases this
    refine fin _ ?_
    rw [h5 (by omega), df (by rw [← hv]; simp)]
  · refine fin _ ?_
    by_cases hv : LV o = true ∧ LV l = true
    · have h6 := h4 hv
      rw [delta_end hge] at h6
      rw [dt hv]; simpa using h6
    · rw [df hv]
      exact h5 (by by_cases h : 0 < a; exact absurd (h3 h) hv; omega)
def V_i_DeltaOf : Prop :=
  ∀ (l0 l1 : List Int), (↑(List.length l0) : Int) ≤ 1099511627776 ∧ (↑(List.length l1) : Int) ≤ 1099511627776 → (↑(List.length l0) : Int) ≤ 1099511627776 ∧ (true = LV l0 → (↑(List.length l1) : Int) ≤ 1099511627776 ∧ (true = LV l1 → ∃ (I2 :
    List (Int × Int × Int) → Int → Prop), ∃ (m3 : List (Int × Int × Int) → Int → Nat), I2 [] 0 ∧ ∀ (l4 : List (Int × Int × Int)) (n5 : Int), I2 l4 n5 → (n5 < (↑(List.length l1) : Int) → 0 ≤ n5 ∧ n5 < (↑(List.length l1) : Int) ∧ ∃ (I6 : Int → Int
    → Int → Int → Prop), ∃ (m7 : Int → Int → Int → Int → Nat), I6 0 (List.getD l1 (Int.toNat n5) 0) 0 0 ∧ ∀ (n8 n9 n10 n11 : Int), I6 n8 n9 n10 n11 → (n8 < (↑(List.length l0) : Int) → ∃ (I12 : Int → Prop), ∃ (m13 : Int → Nat), I12 0 ∧ ∀ (n14 :
    Int), I12 n14 → (-9223372036854775808 ≤ n8 + n14 ∧ n8 + n14 ≤ 9223372036854775807) ∧ (n8 + n14 < (↑(List.length l0) : Int) → (-9223372036854775808 ≤ n5 + n14 ∧ n5 + n14 ≤ 9223372036854775807) ∧ (n5 + n14 < (↑(List.length l1) : Int) →
    (-9223372036854775808 ≤ n8 + n14 ∧ n8 + n14 ≤ 9223372036854775807) ∧ 0 ≤ n8 + n14 ∧ n8 + n14 < (↑(List.length l0) : Int) ∧ (-9223372036854775808 ≤ n5 + n14 ∧ n5 + n14 ≤ 9223372036854775807) ∧ 0 ≤ n5 + n14 ∧ n5 + n14 < (↑(List.length l1) :
    Int) ∧ (List.getD l0 (Int.toNat (n8 + n14)) 0 = List.getD l1 (Int.toNat (n5 + n14)) 0 → (-9223372036854775808 ≤ n14 + 1 ∧ n14 + (1 : Int) ≤ 9223372036854775807) ∧ I12 (n14 + 1) ∧ m13 (n14 + 1) < m13 n14) ∧ (¬List.getD l0 (Int.toNat (n8 + n14)) 0 =
    List.getD l1 (Int.toNat (n5 + n14)) 0 → (2 ≤ n14 → (n11 < n14 → (-9223372036854775808 ≤ n8 + 1 ∧ n8 + (1 : Int) ≤ 9223372036854775807) ∧ I6 (n8 + 1) 0 n8 n14 ∧ m7 (n8 + 1) 0 n8 n14 < m7 n8 n9 n10 n11) ∧ (¬n11 < n14 → (-9223372036854775808 ≤ n8 + 1 ∧
    n8 + (1 : Int) ≤ 9223372036854775807) ∧ I6 (n8 + 1) n9 n10 n11 ∧ m7 (n8 + 1) n9 n10 n11 < m7 n8 n9 n10 n11)) ∧ (¬2 ≤ n14 → (-9223372036854775808 ≤ n8 + 1 ∧ n8 + (1 : Int) ≤ 9223372036854775807) ∧ I6 (n8 + 1) n9 n10 n11 ∧ m7 (n8 + 1) n9 n10 n11 < m7 n8 n9
    n10 n11))) ∧ (¬n5 + n14 < (↑(List.length l1) : Int) → (2 ≤ n14 → (n11 < n14 → (-9223372036854775808 ≤ n8 + 1 ∧ n8 + (1 : Int) ≤ 9223372036854775807) ∧ I6 (n8 + 1) 0 n8 n14 ∧ m7 (n8 + 1) 0 n8 n14 < m7 n8 n9 n10 n11) ∧ (¬n11 < n14 →
    (-9223372036854775808 ≤ n8 + 1 ∧ n8 + (1 : Int) ≤ 9223372036854775807) ∧ I6 (n8 + 1) n9 n10 n11 ∧ m7 (n8 + 1) n9 n10 n11 < m7 n8 n9 n10 n11)) ∧ (¬2 ≤ n14 → (-9223372036854775808 ≤ n8 + 1 ∧ n8 + (1 : Int) ≤ 9223372036854775807) ∧ I6 (n8 + 1) n9 n10 n11 ∧ m7
    (n8 + 1) n9 n10 n11 < m7 n8 n9 n10 n11))) ∧ (¬n8 + n14 < (↑(List.length l0) : Int) → (2 ≤ n14 → (n11 < n14 → (-9223372036854775808 ≤ n8 + 1 ∧ n8 + (1 : Int) ≤ 9223372036854775807) ∧ I6 (n8 + 1) 0 n8 n14 ∧ m7 (n8 + 1) 0 n8 n14 < m7 n8 n9 n10 n11) ∧
    (¬n11 < n14 → (-9223372036854775808 ≤ n8 + 1 ∧ n8 + (1 : Int) ≤ 9223372036854775807) ∧ I6 (n8 + 1) n9 n10 n11 ∧ m7 (n8 + 1) n9 n10 n11 < m7 n8 n9 n10 n11)) ∧ (¬2 ≤ n14 → (-9223372036854775808 ≤ n8 + 1 ∧ n8 + (1 : Int) ≤ 9223372036854775807) ∧ I6 (n8 + 1) n9
    n10 n11 ∧ m7 (n8 + 1) n9 n10 n11 < m7 n8 n9 n10 n11))) ∧ (¬n8 < (↑(List.length l0) : Int) → (↑(List.length l4 + List.length [(n9, n10, n11)]) : Int) ≤ 1099511627776 ∧ (-9223372036854775808 ≤ n5 + max n11 1 ∧ n5 + max n11 (1 : Int) ≤ 9223372036854775807) ∧ I2 (l4 ++ [(n9, n10, n11)]) (n5 + max n11 1) ∧ m3 (l4 ++ [(n9, n10, n11)]) (n5 + max n11 1) < m3 l4 n5)) ∧ (¬n5 < (↑(List.length l1) : Int) → l4 = deltaD l0 l1 ∧ (↑(List.length l4) : Int) ≤ 40)) ∧ (false = LV l1 → [] =
    deltaD l0 l1 ∧ (↑0 : Int) ≤ 40)) ∧ (false = LV l0 → [] = deltaD l0 l1 ∧ (↑0 : Int) ≤ 40)
theorem v_i_DeltaOf : V_i_DeltaOf := by
  unfold V_i_DeltaOf
  rintro o l ⟨hz, hz'⟩
  have fin : ∀ x, x = deltaD o l → x = deltaD o l ∧ (x.length : Int) ≤ 40 := fun x h => ⟨h, by rw [h]; exact deltaD_len o l⟩
  have dt : LV o = true ∧ LV l = true → deltaD o l = deltaOf o l := fun h => by unfold deltaD; rw [if_pos h]
  have df : ¬ (LV o = true ∧ LV l = true) → deltaD o l = [] := fun h => by unfold deltaD; rw [if_neg h]
  refine ⟨hz, fun hv => ⟨hz', fun hv' => ?_, fun hv' => ?_⟩, fun hv => ?_⟩
  · have hll := LV_len hv'.symm
    have hlo := LV_len hv.symm
    have dt' := dt ⟨hv.symm, hv'.symm⟩
    refine ⟨fun out a => 0 ≤ a ∧ a ≤ l.length ∧ (out.length : Int) ≤ a ∧ out ++ deltaOf o (l.drop a.toNat) = deltaOf o l, fun out a => (l.length - a).toNat, ?_, ?_⟩ <;> dsimp only
    · simp
    rintro out a ⟨h0, h1, h2, h3⟩
    refine ⟨fun hlt => ⟨h0, hlt, ?_⟩, fun hge => ?_⟩
    · rw [delta_step h0 hlt] at h3
      have hp := piece_le (old := o) h0 hlt
      refine ⟨fun f b1 b2 b3 => 0 ≤ f ∧ f ≤ o.length ∧ 0 ≤ b3 ∧ bestFrom (l.drop a.toNat) (o.drop f.toNat) f (b1, b2, b3) = pieceAt o (l.getD a.toNat 0) (l.drop (a + 1).toNat), fun f b1 b2 b3 => (o.length - f).toNat, ?_, ?_⟩ <;> dsimp only
      · refine ⟨by omega, by omega, by omega, ?_⟩
        have := bestFrom_sym (l.drop a.toNat) (l.getD a.toNat 0) o 0 (0, 0, 0) (by simp)
        unfold pieceAt
        rw [← drop_lt 0 h0 hlt]
        exact this
      rintro f b1 b2 b3 ⟨hf0, hf1, hb3, hI⟩
      refine ⟨fun hlf => ?_, fun hgf => ?_⟩
      · rw [best_step hf0 hlf] at hI
        refine ⟨fun n => 0 ≤ n ∧ f + n ≤ o.length ∧ a + n ≤ l.length ∧ cp (o.drop f.toNat) (l.drop a.toNat) = n + cp (o.drop (f + n).toNat) (l.drop (a + n).toNat), fun n => (o.length - n).toNat, ?_, ?_⟩ <;> dsimp only
        · simp; omega
        rintro n ⟨hn0, hn1, hn2, hn3⟩
        have fin : n = cp (o.drop f.toNat) (l.drop a.toNat) → (2 ≤ n → (b3 < n → (-9223372036854775808 ≤ f + 1 ∧ f + 1 ≤ 9223372036854775807) ∧ (0 ≤ f + 1 ∧ f + 1 ≤ o.length ∧ 0 ≤ n ∧ bestFrom (l.drop a.toNat) (o.drop (f + 1).toNat) (f + 1) (0, f, n) = pieceAt o (l.getD a.toNat 0) (l.drop (a + 1).toNat)) ∧ (o.length - (f + 1)).toNat < (o.length - f).toNat) ∧
            (¬ b3 < n → (-9223372036854775808 ≤ f + 1 ∧ f + 1 ≤ 9223372036854775807) ∧ (0 ≤ f + 1 ∧ f + 1 ≤ o.length ∧ 0 ≤ b3 ∧ bestFrom (l.drop a.toNat) (o.drop (f + 1).toNat) (f + 1) (b1, b2, b3) = pieceAt o (l.getD a.toNat 0) (l.drop (a + 1).toNat)) ∧ (o.length - (f + 1)).toNat < (o.length - f).toNat)) ∧
            (¬ 2 ≤ n → (-9223372036854775808 ≤ f + 1 ∧ f + 1 ≤ 9223372036854775807) ∧ (0 ≤ f + 1 ∧ f + 1 ≤ o.length ∧ 0 ≤ b3 ∧ bestFrom (l.drop a.toNat) (o.drop (f + 1).toNat) (f + 1) (b1, b2, b3) = pieceAt o (l.getD a.toNat 0) (l.drop (a + 1).toNat)) ∧ (o.length - (f + 1)).toNat < (o.length - f).toNat) := by
          intro hn
          rw [← hn] at hI
          refine ⟨fun q2 => ⟨fun q3 => ?_, fun q3 => ?_⟩, fun q2 => ?_⟩
          · rw [if_pos ⟨q2, q3⟩] at hI
            exact ⟨by omega, ⟨by omega, by omega, by omega, hI⟩, by omega⟩
          · rw [if_neg (fun h => q3 h.2)] at hI
            exact ⟨by omega, ⟨by omega, by omega, by omega, hI⟩, by omega⟩
          · rw [if_neg (fun h => q2 h.1)] at hI
            exact ⟨by omega, ⟨by omega, by omega, by omega, hI⟩, by omega⟩
        refine ⟨by omega, fun q1 => ⟨by omega, fun q2 => ⟨by omega, by omega, q1, by omega, by omega, q2, fun he => ?_, fun he => ?_⟩, fun q2 => ?_⟩, fun q1 => ?_⟩
        · rw [cp_step (by omega) q1 (by omega) q2, if_pos he] at hn3
          rw [show f + (n + 1) = f + n + 1 by omega, show a + (n + 1) = a + n + 1 by omega]
          exact ⟨by omega, ⟨by omega, by omega, by omega, by omega⟩, by omega⟩
        · rw [cp_step (by omega) q1 (by omega) q2, if_neg he] at hn3
          exact fin (by omega)
        · rw [cp_end (.inr q2)] at hn3
          exact fin (by omega)
        · rw [cp_end (.inl q1)] at hn3
          exact fin (by omega)
      · rw [best_end hgf] at hI
        rw [← hI] at hp h3
        dsimp only at hp h3
        refine ⟨by simp; omega, by omega, ⟨by omega, by omega, by simp; omega, ?_⟩, by omega⟩
        simpa using h3
    · rw [delta_end hge] at h3
      refine fin _ ?_
      rw [dt']
      simpa using h3
  · refine fin _ ?_; rw [df (by rw [← hv']; simp)]
  · refine fin _ ?_; rw [df (by rw [← hv]; simp)]
end Go.Proofs.Ythongcikinnjlaa
