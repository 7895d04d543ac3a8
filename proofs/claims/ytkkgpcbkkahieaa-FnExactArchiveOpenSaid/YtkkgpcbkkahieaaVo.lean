/-
  The conditions of functions, proved: o_parse.
-/
import Derived.Test.YtkkgpcbkkahieaaM
set_option linter.unusedVariables false
set_option linter.unusedSimpArgs false
open Go Go.Ax Go.Mx
namespace Go.Proofs.Ytkkgpcbkkahieaa
def V_i_costsFrom : Prop :=
  ∀ (l0 : List Int), LV l0 = true → (-9223372036854775808 ≤ (l0.length : Int) + 1 ∧ (l0.length : Int) + (1 : Int) ≤ (9223372036854775807 : Int)) ∧ (l0.length : Int) + 1 = (l0.length : Int) + 1 ∧ 0 ≤ (l0.length : Int) + 1 ∧ (l0.length : Int) +
 (1 : Int) ≤ 1099511627776 ∧ (-9223372036854775808 ≤ (l0.length : Int) - 1 ∧ (l0.length : Int) - (1 : Int) ≤ (9223372036854775807 : Int)) ∧ ∃ (I1 : Int → List Int → Prop), ∃ (m2 : Int → List Int → Nat), I1 ((l0.length : Int) - 1)
 (List.replicate (Int.toNat ((l0.length : Int) + 1)) 0) ∧ ∀ (n3 : Int) (l4 : List Int), I1 n3 l4 → (0 ≤ n3 → (-9223372036854775808 ≤ n3 + 1 ∧ n3 + (1 : Int) ≤ (9223372036854775807 : Int)) ∧ 0 ≤ n3 + 1 ∧ n3 + 1 < (l4.length : Int) ∧ Int.toNat
 (n3 + 1) < l4.length ∧ ((-9223372036854775808 : Int) ≤ 4 + List.getD l4 (Int.toNat (n3 + 1)) 0 ∧ 4 + List.getD l4 (Int.toNat (n3 + 1)) (0 : Int) ≤ (9223372036854775807 : Int)) ∧ 0 ≤ n3 ∧ n3 < (l4.length : Int) ∧ n3.toNat < l4.length ∧ ∃ (I5
 : Int → List Int → Prop), ∃ (m6 : Int → List Int → Nat), I5 1 (List.set l4 (n3.toNat) (4 + List.getD l4 (Int.toNat (n3 + 1)) 0)) ∧ ∀ (n7 : Int) (l8 : List Int), I5 n7 l8 → (n7 ≤ min 16 n3 → ∃ (I9 : Int → List Int → Prop), ∃ (m10 : Int → List
 Int → Nat), I9 2 l8 ∧ ∀ (n11 : Int) (l12 : List Int), I9 n11 l12 → ((l0.length : Int) ≤ 1099511627776 ∧ 0 ≤ n3 ∧ n3 ≤ (l0.length : Int) ∧ 1 ≤ n7 ∧ n7 ≤ n3) ∧ ∀ (n13 : Int), n13 = mlong l0 n3 n7 → (n11 ≤ n13 → 0 ≤ n3 ∧ n3 < (l12.length : Int)
 ∧ n3.toNat < l12.length ∧ (-9223372036854775808 ≤ n3 + n11 ∧ n3 + n11 ≤ (9223372036854775807 : Int)) ∧ 0 ≤ n3 + n11 ∧ n3 + n11 < (l12.length : Int) ∧ Int.toNat (n3 + n11) < l12.length ∧ ((-9223372036854775808 : Int) ≤ 8 + List.getD l12
 (Int.toNat (n3 + n11)) 0 ∧ 8 + List.getD l12 (Int.toNat (n3 + n11)) (0 : Int) ≤ (9223372036854775807 : Int)) ∧ 0 ≤ n3 ∧ n3 < (l12.length : Int) ∧ n3.toNat < l12.length ∧ (-9223372036854775808 ≤ n11 + 1 ∧ n11 + (1 : Int) ≤
 (9223372036854775807 : Int)) ∧ I9 (n11 + 1) (List.set l12 (n3.toNat) (min (List.getD l12 (n3.toNat) 0) (8 + List.getD l12 (Int.toNat (n3 + n11)) 0))) ∧ m10 (n11 + 1) (List.set l12 (n3.toNat) (min (List.getD l12 (n3.toNat) 0) (8 + List.getD
 l12 (Int.toNat (n3 + n11)) 0))) < m10 n11 l12) ∧ (¬n11 ≤ n13 → (-9223372036854775808 ≤ n7 + 1 ∧ n7 + (1 : Int) ≤ (9223372036854775807 : Int)) ∧ I5 (n7 + 1) l12 ∧ m6 (n7 + 1) l12 < m6 n7 l8)) ∧ (¬n7 ≤ min 16 n3 → (-9223372036854775808 ≤ n3 -
 1 ∧ n3 - (1 : Int) ≤ (9223372036854775807 : Int)) ∧ I1 (n3 - 1) l8 ∧ m2 (n3 - 1) l8 < m2 n3 l4)) ∧ (¬0 ≤ n3 → l4 = costsN l0 (l0.length))
theorem v_i_costsFrom : V_i_costsFrom := by
  unfold V_i_costsFrom
  intro l hv
  have hl := LV_len hv
  refine ⟨by omega, rfl, by omega, by omega, by omega, ?_⟩
  refine ⟨fun i o => -1 ≤ i ∧ i < l.length ∧ (o.length : Int) = l.length + 1 ∧ o.drop (i + 1).toNat = costsN l ((l.length : Int) - 1 - i).toNat, fun i o => (i + 1).toNat, ?_, ?_⟩ <;> dsimp only
  · refine ⟨by omega, by omega, by simp <;> omega, ?_⟩
    rw [show ((l.length : Int) - 1 - (l.length - 1)).toNat = 0 by omega, show ((l.length : Int) + 1).toNat = l.length + 1 by omega, show ((l.length : Int) - 1 + 1).toNat = l.length by omega]
    simp [costsN]
  rintro i o ⟨i0, i1, hol, hI⟩
  refine ⟨fun hi => ?_, fun hi => ?_⟩
  · have hn : ((l.length : Int) - 1 - (i - 1)).toNat = ((l.length : Int) - 1 - i).toNat + 1 := by omega
    have hbd := costsN_bd l ((l.length : Int) - 1 - i).toNat
    have hcl := costsN_len l ((l.length : Int) - 1 - i).toNat
    have hN : costsN l ((l.length : Int) - 1 - (i - 1)).toNat = headC l i (costsN l ((l.length : Int) - 1 - i).toNat) :: costsN l ((l.length : Int) - 1 - i).toNat := by
      rw [hn, costsN]; congr 2; omega
    generalize costsN l ((l.length : Int) - 1 - i).toNat = C at *
    have hC : ∀ k : Int, 1 ≤ k → ∀ q : List Int, q.drop (i + 1).toNat = C → q.getD (i + k).toNat 0 = C.getD (k - 1).toNat 0 := fun k hk q hq => by
      rw [← hq]; simp [List.getD_eq_getElem?_getD]; congr 2; omega
    have hbC : ∀ k : Nat, 0 ≤ C.getD k 0 ∧ C.getD k 0 ≤ 160 := fun k => by
      by_cases h : k < C.length
      · have := hbd _ (show C.getD k 0 ∈ C by simp [List.getD_eq_getElem?_getD, h]); omega
      · simp [List.getD_eq_getElem?_getD, List.getElem?_eq_none (show C.length ≤ k by omega)]
    have hg1 := hC 1 (by omega) o hI
    rw [show ((1 : Int) - 1).toNat = 0 from rfl] at hg1
    have hb0 := hbC 0
    rw [hg1]
    refine ⟨by omega, by omega, by omega, by omega, by simp at *; omega, hi, by omega, by omega, ?_⟩
    refine ⟨fun b q => 1 ≤ b ∧ b ≤ min 16 i + 1 ∧ (q.length : Int) = l.length + 1 ∧ q.drop (i + 1).toNat = C ∧ 0 ≤ q.getD i.toNat 0 ∧ q.getD i.toNat 0 ≤ 164 ∧ leastC C (candBacks l i (min 16 i + 1 - b).toNat b) (q.getD i.toNat 0) = headC l i C, fun b q => (min 16 i + 1 - b).toNat, ?_, ?_⟩ <;> dsimp only
    · have hs : (o.set i.toNat (4 + C.getD 0 0)).getD i.toNat 0 = 4 + C.getD 0 0 := by
        have : i.toNat < o.length := by omega
        simp [List.getD_eq_getElem?_getD, this]
      rw [hs, show min 16 i + 1 - 1 = min 16 i by omega]
      exact ⟨by omega, by omega, by simp; omega, by rw [set_drop hi]; exact hI, by omega, by omega, rfl⟩
    rintro b q ⟨b0, b1, ql, qd, q0, q1, hJ⟩
    refine ⟨fun hb => ?_, fun hb => ?_⟩
    · have hm := mlong_le l (k := b) hi (by omega)
      rw [show (min 16 i + 1 - b).toNat = (min 16 i + 1 - (b + 1)).toNat + 1 by omega, candBacks] at hJ
      refine ⟨fun k q => 2 ≤ k ∧ (k ≤ mlong l i b + 1 ∨ k = 2) ∧ (q.length : Int) = l.length + 1 ∧ q.drop (i + 1).toNat = C ∧ 0 ≤ q.getD i.toNat 0 ∧ q.getD i.toNat 0 ≤ 164 ∧ leastC C (candLens b (mlong l i b + 1 - k).toNat k ++ candBacks l i (min 16 i + 1 - (b + 1)).toNat (b + 1)) (q.getD i.toNat 0) = headC l i C, fun k q => (mlong l i b + 1 - k).toNat, ?_, ?_⟩ <;> dsimp only
      · exact ⟨by omega, .inr rfl, ql, qd, q0, q1, by rw [show (mlong l i b + 1 - 2).toNat = (mlong l i b - 1).toNat by omega]; exact hJ⟩
      rintro k q ⟨k0, k1, ql, qd, q0, q1, hK⟩
      refine ⟨⟨by omega, hi, by omega, b0, by omega⟩, ?_⟩
      rintro x rfl
      refine ⟨fun hk => ?_, fun hk => ?_⟩
      · have hg := hC k (by omega) q qd
        have hbk := hbC (k - 1).toNat
        rw [show (mlong l i b + 1 - k).toNat = (mlong l i b + 1 - (k + 1)).toNat + 1 by omega, candLens_step, List.cons_append, leastC] at hK
        rw [hg]
        have hs : ∀ v : Int, (q.set i.toNat v).getD i.toNat 0 = v := fun v => by
          have : i.toNat < q.length := by omega
          simp [List.getD_eq_getElem?_getD, this]
        refine ⟨hi, by omega, by omega, by omega, by omega, by omega, by omega, by omega, hi, by omega, by omega, by omega, ⟨by omega, .inl (by omega), by simp; omega, by rw [set_drop hi]; exact qd, ?_, ?_, ?_⟩, by omega⟩
        · rw [hs]; omega
        · rw [hs]; omega
        · rw [hs]; exact hK
      · rw [show (mlong l i b + 1 - k).toNat = 0 by omega, candLens, List.nil_append] at hK
        exact ⟨by omega, ⟨by omega, by omega, ql, qd, q0, q1, hK⟩, by omega⟩
    · rw [show (min 16 i + 1 - b).toNat = 0 by omega] at hJ
      refine ⟨by omega, ⟨by omega, by omega, ql, ?_⟩, by omega⟩
      rw [hN, show i - 1 + 1 = i by omega, drop_lt 0 hi (by omega), qd, ← hJ]; rfl
  · rw [show (i + 1).toNat = 0 by omega, show ((l.length : Int) - 1 - i).toNat = l.length by omega] at hI
    simpa using hI
def V_s_l15Table : Prop :=
  ∀ (l0 : List Int), LV l0 = true → (-9223372036854775808 ≤ (l0.length : Int) + 1 ∧ (l0.length : Int) + (1 : Int) ≤ (9223372036854775807 : Int)) ∧ (l0.length : Int) + 1 = (l0.length : Int) + 1 ∧ 0 ≤ (l0.length : Int) + 1 ∧ (l0.length : Int) +
 (1 : Int) ≤ 1099511627776 ∧ (l0.length : Int) = (l0.length : Int) ∧ 0 ≤ (l0.length : Int) ∧ (l0.length : Int) ≤ 1099511627776 ∧ (-9223372036854775808 ≤ (l0.length : Int) - 1 ∧ (l0.length : Int) - (1 : Int) ≤ (9223372036854775807 : Int)) ∧ ∃
 (I1 : Int → List Int → List (Int × Int × Int) → Prop), ∃ (m2 : Int → List Int → List (Int × Int × Int) → Nat), I1 ((l0.length : Int) - 1) (List.replicate (Int.toNat ((l0.length : Int) + 1)) 0) (List.replicate (Int.toNat (l0.length : Int))
 (0, 0, 0)) ∧ ∀ (n3 : Int) (l4 : List Int) (l5 : List (Int × Int × Int)), I1 n3 l4 l5 → (0 ≤ n3 → (-9223372036854775808 ≤ n3 + 1 ∧ n3 + (1 : Int) ≤ (9223372036854775807 : Int)) ∧ 0 ≤ n3 + 1 ∧ n3 + 1 < (l4.length : Int) ∧ Int.toNat (n3 + 1) <
 l4.length ∧ (-9223372036854775808 ≤ List.getD l4 (Int.toNat (n3 + 1)) 0 + 4 ∧ List.getD l4 (Int.toNat (n3 + 1)) 0 + (4 : Int) ≤ (9223372036854775807 : Int)) ∧ 0 ≤ n3 ∧ n3 < (l4.length : Int) ∧ n3.toNat < l4.length ∧ 0 ≤ n3 ∧ n3 < (l0.length
 : Int) ∧ 0 ≤ n3 ∧ n3 < (l5.length : Int) ∧ n3.toNat < l5.length ∧ ∃ (I6 : Int → List Int → List (Int × Int × Int) → Prop), ∃ (m7 : Int → List Int → List (Int × Int × Int) → Nat), I6 1 (List.set l4 (n3.toNat) (List.getD l4 (Int.toNat (n3 +
 1)) 0 + 4)) (List.set l5 (n3.toNat) (List.getD l0 (n3.toNat) 0, 0, 0)) ∧ ∀ (n8 : Int) (l9 : List Int) (l10 : List (Int × Int × Int)), I6 n8 l9 l10 → (n8 ≤ 16 → (n8 ≤ n3 → ((l0.length : Int) ≤ 1099511627776 ∧ 0 ≤ n3 ∧ n3 ≤ (l0.length : Int) ∧
 1 ≤ n8 ∧ n8 ≤ n3) ∧ ∀ (n11 : Int), n11 = mlong l0 n3 n8 → ∃ (I12 : Int → List Int → List (Int × Int × Int) → Prop), ∃ (m13 : Int → List Int → List (Int × Int × Int) → Nat), I12 2 l9 l10 ∧ ∀ (n14 : Int) (l15 : List Int) (l16 : List (Int × Int
 × Int)), I12 n14 l15 l16 → (n14 ≤ n11 → (-9223372036854775808 ≤ n3 + n14 ∧ n3 + n14 ≤ (9223372036854775807 : Int)) ∧ 0 ≤ n3 + n14 ∧ n3 + n14 < (l15.length : Int) ∧ Int.toNat (n3 + n14) < l15.length ∧ (-9223372036854775808 ≤ List.getD l15
 (Int.toNat (n3 + n14)) 0 + 8 ∧ List.getD l15 (Int.toNat (n3 + n14)) 0 + (8 : Int) ≤ (9223372036854775807 : Int)) ∧ 0 ≤ n3 ∧ n3 < (l15.length : Int) ∧ n3.toNat < l15.length ∧ (List.getD l15 (Int.toNat (n3 + n14)) 0 + 8 < List.getD l15
 (n3.toNat) 0 → (-9223372036854775808 ≤ n3 + n14 ∧ n3 + n14 ≤ (9223372036854775807 : Int)) ∧ 0 ≤ n3 + n14 ∧ n3 + n14 < (l15.length : Int) ∧ Int.toNat (n3 + n14) < l15.length ∧ (-9223372036854775808 ≤ List.getD l15 (Int.toNat (n3 + n14)) 0 + 8
 ∧ List.getD l15 (Int.toNat (n3 + n14)) 0 + (8 : Int) ≤ (9223372036854775807 : Int)) ∧ 0 ≤ n3 ∧ n3 < (l15.length : Int) ∧ n3.toNat < l15.length ∧ 0 ≤ n3 ∧ n3 < (l16.length : Int) ∧ n3.toNat < l16.length ∧ (-9223372036854775808 ≤ n14 + 1 ∧ n14
 + (1 : Int) ≤ (9223372036854775807 : Int)) ∧ I12 (n14 + 1) (List.set l15 (n3.toNat) (List.getD l15 (Int.toNat (n3 + n14)) 0 + 8)) (List.set l16 (n3.toNat) (0, n8, n14)) ∧ m13 (n14 + 1) (List.set l15 (n3.toNat) (List.getD l15 (Int.toNat (n3 +
 n14)) 0 + 8)) (List.set l16 (n3.toNat) (0, n8, n14)) < m13 n14 l15 l16) ∧ (¬List.getD l15 (Int.toNat (n3 + n14)) 0 + 8 < List.getD l15 (n3.toNat) 0 → (-9223372036854775808 ≤ n14 + 1 ∧ n14 + (1 : Int) ≤ (9223372036854775807 : Int)) ∧ I12 (n14
 + 1) l15 l16 ∧ m13 (n14 + 1) l15 l16 < m13 n14 l15 l16)) ∧ (¬n14 ≤ n11 → (-9223372036854775808 ≤ n8 + 1 ∧ n8 + (1 : Int) ≤ (9223372036854775807 : Int)) ∧ I6 (n8 + 1) l15 l16 ∧ m7 (n8 + 1) l15 l16 < m7 n8 l9 l10)) ∧ (¬n8 ≤ n3 →
 (-9223372036854775808 ≤ n3 - 1 ∧ n3 - (1 : Int) ≤ (9223372036854775807 : Int)) ∧ I1 (n3 - 1) l9 l10 ∧ m2 (n3 - 1) l9 l10 < m2 n3 l4 l5)) ∧ (¬n8 ≤ 16 → (-9223372036854775808 ≤ n3 - 1 ∧ n3 - (1 : Int) ≤ (9223372036854775807 : Int)) ∧ I1 (n3 -
 1) l9 l10 ∧ m2 (n3 - 1) l9 l10 < m2 n3 l4 l5)) ∧ (¬0 ≤ n3 → l4 = costsN l0 (l0.length) ∧ l5 = toksN l0 (l0.length))
theorem v_s_l15Table : V_s_l15Table := by
  unfold V_s_l15Table
  intro l hv
  have hl := LV_len hv
  refine ⟨by omega, rfl, by omega, by omega, rfl, by omega, by omega, by omega, ?_⟩
  refine ⟨fun i o f => -1 ≤ i ∧ i < l.length ∧ (o.length : Int) = l.length + 1 ∧ (f.length : Int) = l.length ∧ o.drop (i + 1).toNat = costsN l ((l.length : Int) - 1 - i).toNat ∧ f.drop (i + 1).toNat = toksN l ((l.length : Int) - 1 - i).toNat, fun i o f => (i + 1).toNat, ?_, ?_⟩ <;> dsimp only
  · refine ⟨by omega, by omega, by simp <;> omega, by simp, ?_, ?_⟩
    · rw [show ((l.length : Int) - 1 - (l.length - 1)).toNat = 0 by omega, show ((l.length : Int) + 1).toNat = l.length + 1 by omega, show ((l.length : Int) - 1 + 1).toNat = l.length by omega]
      simp [costsN]
    · rw [show ((l.length : Int) - 1 - (l.length - 1)).toNat = 0 by omega, show ((l.length : Int) - 1 + 1).toNat = l.length by omega]
      simp [toksN]
  rintro i o f ⟨i0, i1, hol, hfl, hI, hF⟩
  refine ⟨fun hi => ?_, fun hi => ?_⟩
  · have hn : ((l.length : Int) - 1 - (i - 1)).toNat = ((l.length : Int) - 1 - i).toNat + 1 := by omega
    have hbd := costsN_bd l ((l.length : Int) - 1 - i).toNat
    have hcl := costsN_len l ((l.length : Int) - 1 - i).toNat
    have hN : costsN l ((l.length : Int) - 1 - (i - 1)).toNat = headC l i (costsN l ((l.length : Int) - 1 - i).toNat) :: costsN l ((l.length : Int) - 1 - i).toNat := by
      rw [hn, costsN]; congr 2; omega
    have hT : toksN l ((l.length : Int) - 1 - (i - 1)).toNat = bestTok l i (costsN l ((l.length : Int) - 1 - i).toNat) :: toksN l ((l.length : Int) - 1 - i).toNat := by
      rw [hn, toksN]; congr 2; omega
    generalize costsN l ((l.length : Int) - 1 - i).toNat = C at *
    generalize toksN l ((l.length : Int) - 1 - i).toNat = T at *
    have hC : ∀ k : Int, 1 ≤ k → ∀ q : List Int, q.drop (i + 1).toNat = C → q.getD (i + k).toNat 0 = C.getD (k - 1).toNat 0 := fun k hk q hq => by
      rw [← hq]; simp [List.getD_eq_getElem?_getD]; congr 2; omega
    have hbC : ∀ k : Nat, 0 ≤ C.getD k 0 ∧ C.getD k 0 ≤ 160 := fun k => by
      by_cases h : k < C.length
      · have := hbd _ (show C.getD k 0 ∈ C by simp [List.getD_eq_getElem?_getD, h]); omega
      · simp [List.getD_eq_getElem?_getD, List.getElem?_eq_none (show C.length ≤ k by omega)]
    have hg1 := hC 1 (by omega) o hI
    rw [show ((1 : Int) - 1).toNat = 0 from rfl] at hg1
    have hb0 := hbC 0
    rw [hg1]
    have hsI : ∀ (q : List Int) (v : Int), (q.length : Int) = l.length + 1 → (q.set i.toNat v).getD i.toNat 0 = v := fun q v hq => by
      have : i.toNat < q.length := by omega
      simp [List.getD_eq_getElem?_getD, this]
    have hsT : ∀ (g : List P3) (v : P3), (g.length : Int) = l.length → (g.set i.toNat v).getD i.toNat (0, 0, 0) = v := fun q v hq => by
      have : i.toNat < q.length := by omega
      simp [List.getD_eq_getElem?_getD, this]
    refine ⟨by omega, by omega, by omega, by omega, by omega, hi, by omega, by omega, hi, by omega, hi, by omega, by omega, ?_⟩
    refine ⟨fun b q g => 1 ≤ b ∧ b ≤ min 16 i + 1 ∧ (q.length : Int) = l.length + 1 ∧ (g.length : Int) = l.length ∧ q.drop (i + 1).toNat = C ∧ g.drop (i + 1).toNat = T ∧ 0 ≤ q.getD i.toNat 0 ∧ q.getD i.toNat 0 ≤ 164 ∧ keepC C (candBacks l i (min 16 i + 1 - b).toNat b) (q.getD i.toNat 0, g.getD i.toNat (0, 0, 0)) = keepC C (cands l i) (4 + C.getD 0 0, (l.getD i.toNat 0, 0, 0)), fun b q g => (min 16 i + 1 - b).toNat, ?_, ?_⟩ <;> dsimp only
    · rw [hsI o _ hol, hsT f _ hfl, show min 16 i + 1 - 1 = min 16 i by omega, Int.add_comm (C.getD 0 0) 4]
      exact ⟨by omega, by omega, by simp; omega, by simp; omega, by rw [set_drop hi]; exact hI, by rw [set_dropT hi]; exact hF, by omega, by omega, rfl⟩
    rintro b q g ⟨b0, b1, ql, gl, qd, gd, q0, q1, hJ⟩
    have fin : ¬ b ≤ min 16 i → (-9223372036854775808 ≤ i - 1 ∧ i - 1 ≤ 9223372036854775807) ∧ (-1 ≤ i - 1 ∧ i - 1 < l.length ∧ (q.length : Int) = l.length + 1 ∧ (g.length : Int) = l.length ∧ q.drop (i - 1 + 1).toNat = costsN l ((l.length : Int) - 1 - (i - 1)).toNat ∧ g.drop (i - 1 + 1).toNat = toksN l ((l.length : Int) - 1 - (i - 1)).toNat) ∧ (i - 1 + 1).toNat < (i + 1).toNat := fun hb => by
      rw [show (min 16 i + 1 - b).toNat = 0 by omega, candBacks, keepC] at hJ
      obtain ⟨e1, e2⟩ := first_least hJ.symm
      refine ⟨by omega, ⟨by omega, by omega, ql, gl, ?_, ?_⟩, by omega⟩
      · rw [hN, show i - 1 + 1 = i by omega, drop_lt 0 hi (by omega), qd, e1]
      · rw [hT, show i - 1 + 1 = i by omega, drop_lt (0, 0, 0) hi (by omega), gd, e2]
    refine ⟨fun hb => ⟨fun hb2 => ?_, fun hb2 => fin (by omega)⟩, fun hb => fin (by omega)⟩
    have hm := mlong_le l (k := b) hi (by omega)
    rw [show (min 16 i + 1 - b).toNat = (min 16 i + 1 - (b + 1)).toNat + 1 by omega, candBacks] at hJ
    refine ⟨⟨by omega, hi, by omega, b0, hb2⟩, ?_⟩
    rintro x rfl
    refine ⟨fun k q g => 2 ≤ k ∧ (k ≤ mlong l i b + 1 ∨ k = 2) ∧ (q.length : Int) = l.length + 1 ∧ (g.length : Int) = l.length ∧ q.drop (i + 1).toNat = C ∧ g.drop (i + 1).toNat = T ∧ 0 ≤ q.getD i.toNat 0 ∧ q.getD i.toNat 0 ≤ 164 ∧ keepC C (candLens b (mlong l i b + 1 - k).toNat k ++ candBacks l i (min 16 i + 1 - (b + 1)).toNat (b + 1)) (q.getD i.toNat 0, g.getD i.toNat (0, 0, 0)) = keepC C (cands l i) (4 + C.getD 0 0, (l.getD i.toNat 0, 0, 0)), fun k q g => (mlong l i b + 1 - k).toNat, ?_, ?_⟩ <;> dsimp only
    · exact ⟨by omega, .inr rfl, ql, gl, qd, gd, q0, q1, by rw [show (mlong l i b + 1 - 2).toNat = (mlong l i b - 1).toNat by omega]; exact hJ⟩
    rintro k q g ⟨k0, k1, ql, gl, qd, gd, q0, q1, hK⟩
    refine ⟨fun hk => ?_, fun hk => ?_⟩
    · have hg := hC k (by omega) q qd
      have hbk := hbC (k - 1).toNat
      rw [show (mlong l i b + 1 - k).toNat = (mlong l i b + 1 - (k + 1)).toNat + 1 by omega, candLens_step, List.cons_append, keepC] at hK
      simp only at hK
      rw [hg, Int.add_comm (C.getD (k - 1).toNat 0) 8]
      refine ⟨by omega, by omega, by omega, by omega, by omega, hi, by omega, by omega, fun hlt => ?_, fun hlt => ?_⟩
      · rw [if_pos hlt] at hK
        refine ⟨by omega, by omega, by omega, by omega, by omega, hi, by omega, by omega, hi, by omega, by omega, by omega, ⟨by omega, .inl (by omega), by simp; omega, by simp; omega, by rw [set_drop hi]; exact qd, by rw [set_dropT hi]; exact gd, ?_⟩, by omega⟩
        rw [hsI q _ ql, hsT g _ gl]
        exact ⟨by omega, by omega, hK⟩
      · rw [if_neg hlt] at hK
        exact ⟨by omega, ⟨by omega, .inl (by omega), ql, gl, qd, gd, q0, q1, hK⟩, by omega⟩
    · rw [show (mlong l i b + 1 - k).toNat = 0 by omega, candLens, List.nil_append] at hK
      exact ⟨by omega, ⟨by omega, by omega, ql, gl, qd, gd, q0, q1, hK⟩, by omega⟩
  · rw [show (i + 1).toNat = 0 by omega, show ((l.length : Int) - 1 - i).toNat = l.length by omega] at hI hF
    exact ⟨by simpa using hI, by simpa using hF⟩
def V_i_bestAt : Prop :=
  ∀ (l0 : List Int) (n1 : Int) (l2 : List Int), LV l0 = true ∧ 0 ≤ n1 ∧ n1 < (l0.length : Int) ∧ l2 = costsN l0 (l0.length) → 0 ≤ n1 ∧ n1 < (l2.length : Int) ∧ (-9223372036854775808 ≤ n1 + 1 ∧ n1 + (1 : Int) ≤ (9223372036854775807 : Int)) ∧ 0
 ≤ n1 + 1 ∧ n1 + 1 < (l2.length : Int) ∧ ((-9223372036854775808 : Int) ≤ 4 + List.getD l2 (Int.toNat (n1 + 1)) 0 ∧ 4 + List.getD l2 (Int.toNat (n1 + 1)) (0 : Int) ≤ (9223372036854775807 : Int)) ∧ (List.getD l2 (n1.toNat) (0 : Int) = 4 +
 List.getD l2 (Int.toNat (n1 + 1)) 0 → 0 ≤ n1 ∧ n1 < (l0.length : Int) ∧ (List.getD l0 (n1.toNat) 0, 0, 0) = takenAt l0 n1) ∧ (¬List.getD l2 (n1.toNat) (0 : Int) = 4 + List.getD l2 (Int.toNat (n1 + 1)) 0 → ∃ (I3 : Int → Int → Int → Int →
 Prop), ∃ (m4 : Int → Int → Int → Int → Nat), I3 1 0 0 0 ∧ ∀ (n5 n6 n7 n8 : Int), I3 n5 n6 n7 n8 → (n5 ≤ min 16 n1 → ∃ (I9 : Int → Int → Int → Int → Prop), ∃ (m10 : Int → Int → Int → Int → Nat), I9 2 n6 n7 n8 ∧ ∀ (n11 n12 n13 n14 : Int), I9
 n11 n12 n13 n14 → ((l0.length : Int) ≤ 1099511627776 ∧ 0 ≤ n1 ∧ n1 ≤ (l0.length : Int) ∧ 1 ≤ n5 ∧ n5 ≤ n1) ∧ ∀ (n15 : Int), n15 = mlong l0 n1 n5 → (n11 ≤ n15 → 0 ≤ n1 ∧ n1 < (l2.length : Int) ∧ (-9223372036854775808 ≤ n1 + n11 ∧ n1 + n11 ≤
 (9223372036854775807 : Int)) ∧ 0 ≤ n1 + n11 ∧ n1 + n11 < (l2.length : Int) ∧ ((-9223372036854775808 : Int) ≤ 8 + List.getD l2 (Int.toNat (n1 + n11)) 0 ∧ 8 + List.getD l2 (Int.toNat (n1 + n11)) (0 : Int) ≤ (9223372036854775807 : Int)) ∧
 (List.getD l2 (n1.toNat) (0 : Int) = 8 + List.getD l2 (Int.toNat (n1 + n11)) 0 → (0, n5, n11) = takenAt l0 n1) ∧ (¬List.getD l2 (n1.toNat) (0 : Int) = 8 + List.getD l2 (Int.toNat (n1 + n11)) 0 → (-9223372036854775808 ≤ n11 + 1 ∧ n11 + (1 :
 Int) ≤ (9223372036854775807 : Int)) ∧ I9 (n11 + 1) n12 n13 n14 ∧ m10 (n11 + 1) n12 n13 n14 < m10 n11 n12 n13 n14)) ∧ (¬n11 ≤ n15 → (-9223372036854775808 ≤ n5 + 1 ∧ n5 + (1 : Int) ≤ (9223372036854775807 : Int)) ∧ I3 (n5 + 1) n12 n13 n14 ∧ m4
 (n5 + 1) n12 n13 n14 < m4 n5 n6 n7 n8)) ∧ (¬n5 ≤ min 16 n1 → (0, 0, 0) = takenAt l0 n1))
theorem v_i_bestAt : V_i_bestAt := by
  unfold V_i_bestAt
  rintro l a cs ⟨hv, h0, h1, rfl⟩
  have hl := LV_len hv
  have hcl := costsN_len l l.length
  obtain ⟨g0, g1⟩ := costs_get l h0 h1
  have hnn := costs_nn l hl
  have e1 := g1 1 (by omega)
  rw [show ((1 : Int) - 1).toNat = 0 from rfl] at e1
  have b0 := hnn a.toNat
  have b1 := hnn (a + 1).toNat
  have hT : takenAt l a = if (costsN l l.length).getD a.toNat 0 = 4 + (costsN l l.length).getD (a + 1).toNat 0 then (l.getD a.toNat 0, 0, 0) else firstC ((costsN l l.length).drop (a + 1).toNat) ((costsN l l.length).getD a.toNat 0) (cands l a) := by
    unfold takenAt bestTok; rw [← g0, ← e1]
  rw [hT]
  refine ⟨h0, by omega, by omega, by omega, by omega, by omega, fun he => ⟨h0, h1, by rw [if_pos he]⟩, fun hne => ?_⟩
  rw [if_neg hne]
  generalize hC : (costsN l l.length).drop (a + 1).toNat = C at *
  generalize costsN l l.length = N at *
  refine ⟨fun b x y z => 1 ≤ b ∧ b ≤ min 16 a + 1 ∧ firstC C (N.getD a.toNat 0) (candBacks l a (min 16 a + 1 - b).toNat b) = firstC C (N.getD a.toNat 0) (cands l a), fun b x y z => (min 16 a + 1 - b).toNat, ?_, ?_⟩ <;> dsimp only
  · exact ⟨by omega, by omega, by rw [show min 16 a + 1 - 1 = min 16 a by omega]; rfl⟩
  rintro b x y z ⟨c0, c1, hI⟩
  refine ⟨fun hb => ?_, fun hb => ?_⟩
  · have hm := mlong_le l (k := b) h0 (by omega)
    rw [show (min 16 a + 1 - b).toNat = (min 16 a + 1 - (b + 1)).toNat + 1 by omega, candBacks] at hI
    refine ⟨fun k x y z => 2 ≤ k ∧ (k ≤ mlong l a b + 1 ∨ k = 2) ∧ firstC C (N.getD a.toNat 0) (candLens b (mlong l a b + 1 - k).toNat k ++ candBacks l a (min 16 a + 1 - (b + 1)).toNat (b + 1)) = firstC C (N.getD a.toNat 0) (cands l a), fun k x y z => (mlong l a b + 1 - k).toNat, ?_, ?_⟩ <;> dsimp only
    · exact ⟨by omega, .inr rfl, by rw [show (mlong l a b + 1 - 2).toNat = (mlong l a b - 1).toNat by omega]; exact hI⟩
    rintro k x y z ⟨k0, k1, hJ⟩
    refine ⟨⟨by omega, h0, by omega, c0, by omega⟩, ?_⟩
    rintro w rfl
    refine ⟨fun hk => ?_, fun hk => ?_⟩
    · rw [show (mlong l a b + 1 - k).toNat = (mlong l a b + 1 - (k + 1)).toNat + 1 by omega, candLens_step, List.cons_append, firstC] at hJ
      simp only at hJ
      rw [← g1 k (by omega)] at hJ
      have b2 := hnn (a + k).toNat
      refine ⟨h0, by omega, by omega, by omega, by omega, by omega, fun he => ?_, fun hne2 => ?_⟩
      · rw [if_pos he] at hJ; exact hJ
      · rw [if_neg hne2] at hJ
        exact ⟨by omega, ⟨by omega, .inl (by omega), hJ⟩, by omega⟩
    · rw [show (mlong l a b + 1 - k).toNat = 0 by omega, candLens, List.nil_append] at hJ
      exact ⟨by omega, ⟨by omega, by omega, hJ⟩, by omega⟩
  · rw [show (min 16 a + 1 - b).toNat = 0 by omega, candBacks, firstC] at hI
    exact hI
def V_i_ParseBest : Prop :=
  ∀ (l0 : List Int), (l0.length : Int) ≤ 1099511627776 → (l0.length : Int) ≤ 1099511627776 ∧ (true = LV l0 → LV l0 = true ∧ ∀ (l1 : List Int), l1 = costsN l0 (l0.length) → ∃ (I2 : List (Int × Int × Int) → Int → Prop), ∃ (m3 : List (Int × Int ×
 Int) → Int → Nat), I2 [] 0 ∧ ∀ (l4 : List (Int × Int × Int)) (n5 : Int), I2 l4 n5 → (n5 < (l0.length : Int) → (LV l0 = true ∧ 0 ≤ n5 ∧ n5 < (l0.length : Int) ∧ l1 = costsN l0 (l0.length)) ∧ ∀ (n6 n7 n8 : Int), (n6, n7, n8) = takenAt l0 n5 →
 (↑(l4.length + List.length [(n6, n7, n8)]) : Int) ≤ 1099511627776 ∧ (-9223372036854775808 ≤ n5 + max n8 1 ∧ n5 + max n8 (1 : Int) ≤ (9223372036854775807 : Int)) ∧ I2 (l4 ++ [(n6, n7, n8)]) (n5 + max n8 1) ∧ m3 (l4 ++ [(n6, n7, n8)]) (n5 +
 max n8 1) < m3 l4 n5) ∧ (¬n5 < (l0.length : Int) → l4 = parseD l0 ∧ (l4.length : Int) ≤ 40)) ∧ (false = LV l0 → [] = parseD l0 ∧ (↑0 : Int) ≤ 40)
theorem v_i_ParseBest : V_i_ParseBest := by
  unfold V_i_ParseBest
  intro l hz
  refine ⟨hz, fun hv => ⟨hv.symm, ?_⟩, fun hv => ?_⟩
  · rintro cs rfl
    have hl := LV_len hv.symm
    have hD : parseD l = parseN l l.length 0 := if_pos hv.symm
    have hlen := (parseD_len l).2
    refine ⟨fun o i => 0 ≤ i ∧ i ≤ l.length ∧ (o.length : Int) ≤ i ∧ ∃ n : Nat, (l.length : Int) - i ≤ n ∧ o ++ parseN l n i = parseD l, fun o i => (l.length - i).toNat, ?_, ?_⟩ <;> dsimp only
    · exact ⟨by omega, by omega, by simp, l.length, by omega, by rw [hD]; rfl⟩
    rintro o i ⟨i0, i1, i2, n, n0, hI⟩
    refine ⟨fun hlt => ?_, fun hge => ?_⟩
    · obtain ⟨m, rfl⟩ : ∃ m, n = m + 1 := ⟨n - 1, by omega⟩
      rw [parse_step hlt] at hI
      obtain ⟨q1, q2, _⟩ := taken_ok l i0 hlt
      refine ⟨⟨hv.symm, i0, hlt, rfl⟩, fun s b w hT => ?_⟩
      rw [← hT] at hI q1 q2
      dsimp only at hI q1 q2
      exact ⟨by simp; omega, by omega, ⟨by omega, by omega, by simp; omega, m, by omega, by simpa using hI⟩, by omega⟩
    · rw [parse_end hge, List.append_nil] at hI
      exact ⟨hI, by rw [hI]; exact hlen⟩
  · have : parseD l = [] := if_neg (by rw [← hv]; simp)
    rw [this]; simp
def V_s_ParseBest : Prop :=
  ∀ (l0 : List Int), (l0.length : Int) ≤ 1099511627776 → (l0.length : Int) ≤ 1099511627776 ∧ (true = LV l0 → LV l0 = true ∧ ∀ (l1 : List Int) (l2 : List (Int × Int × Int)), l1 = costsN l0 (l0.length) ∧ l2 = toksN l0 (l0.length) → ∃ (I3 : List
 (Int × Int × Int) → Int → Prop), ∃ (m4 : List (Int × Int × Int) → Int → Nat), I3 [] 0 ∧ ∀ (l5 : List (Int × Int × Int)) (n6 : Int), I3 l5 n6 → (n6 < (l0.length : Int) → 0 ≤ n6 ∧ n6 < (l2.length : Int) ∧ n6.toNat < l2.length ∧ (↑(l5.length +
 List.length [(Prod.fst (List.getD l2 (n6.toNat) (0, 0, 0)), Prod.fst (Prod.snd (List.getD l2 (n6.toNat) (0, 0, 0))), Prod.snd (Prod.snd (List.getD l2 (n6.toNat) (0, 0, 0))))]) : Int) ≤ 1099511627776 ∧ 0 ≤ n6 ∧ n6 < (l2.length : Int) ∧
 n6.toNat < l2.length ∧ (-9223372036854775808 ≤ n6 + max (Prod.snd (Prod.snd (List.getD l2 (n6.toNat) (0, 0, 0)))) 1 ∧ n6 + max (Prod.snd (Prod.snd (List.getD l2 (n6.toNat) (0, 0, 0)))) (1 : Int) ≤ (9223372036854775807 : Int)) ∧ I3 (l5 ++
 [(Prod.fst (List.getD l2 (n6.toNat) (0, 0, 0)), Prod.fst (Prod.snd (List.getD l2 (n6.toNat) (0, 0, 0))), Prod.snd (Prod.snd (List.getD l2 (n6.toNat) (0, 0, 0))))]) (n6 + max (Prod.snd (Prod.snd (List.getD l2 (n6.toNat) (0, 0, 0)))) 1) ∧ m4
 (l5 ++ [(Prod.fst (List.getD l2 (n6.toNat) (0, 0, 0)), Prod.fst (Prod.snd (List.getD l2 (n6.toNat) (0, 0, 0))), Prod.snd (Prod.snd (List.getD l2 (n6.toNat) (0, 0, 0))))]) (n6 + max (Prod.snd (Prod.snd (List.getD l2 (n6.toNat) (0, 0, 0)))) 1)
 < m4 l5 n6) ∧ (¬n6 < (l0.length : Int) → l5 = parseD l0 ∧ (l5.length : Int) ≤ 40)) ∧ (false = LV l0 → [] = parseD l0 ∧ (↑0 : Int) ≤ 40)
theorem v_s_ParseBest : V_s_ParseBest := by
  unfold V_s_ParseBest
  intro l hz
  refine ⟨hz, fun hv => ⟨hv.symm, ?_⟩, fun hv => ?_⟩
  · rintro cs f ⟨rfl, rfl⟩
    have hl := LV_len hv.symm
    have hD : parseD l = parseN l l.length 0 := if_pos hv.symm
    have hlen := (parseD_len l).2
    have htl := toksN_len l l.length
    refine ⟨fun o i => 0 ≤ i ∧ i ≤ l.length ∧ (o.length : Int) ≤ i ∧ ∃ n : Nat, (l.length : Int) - i ≤ n ∧ o ++ parseN l n i = parseD l, fun o i => (l.length - i).toNat, ?_, ?_⟩ <;> dsimp only
    · exact ⟨by omega, by omega, by simp, l.length, by omega, by rw [hD]; rfl⟩
    rintro o i ⟨i0, i1, i2, n, n0, hI⟩
    refine ⟨fun hlt => ?_, fun hge => ?_⟩
    · obtain ⟨m, rfl⟩ : ∃ m, n = m + 1 := ⟨n - 1, by omega⟩
      rw [parse_step hlt] at hI
      obtain ⟨q1, q2, _⟩ := taken_ok l i0 hlt
      rw [toks_get l i0 hlt]
      exact ⟨i0, by omega, by omega, by simp; omega, i0, by omega, by omega, by omega, ⟨by omega, q2, by simp; omega, m, by omega, by simpa using hI⟩, by omega⟩
    · rw [parse_end hge, List.append_nil] at hI
      exact ⟨hI, by rw [hI]; exact hlen⟩
  · have : parseD l = [] := if_neg (by rw [← hv]; simp)
    rw [this]; simp
end Go.Proofs.Ytkkgpcbkkahieaa
