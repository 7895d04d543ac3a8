/-
  The conditions of functions, proved: k_huff.
-/
import Derived.Test.YtkkgpcbkkahieaaM
set_option linter.unusedVariables false
set_option linter.unusedSimpArgs false
open Go Go.Ax Go.Mx
namespace Go.Proofs.Ytkkgpcbkkahieaa
def V_i_LengthsOf_1 : Prop :=
  ∀ (l0 : List (Int × List Int)), 1 ≤ (l0.length : Int) ∧ (l0.length : Int) ≤ 100 → ∃ (I1 : Int → Int → Prop), ∃ (m2 : Int → Int → Nat), I1 0 0 ∧ ∀ (n3 n4 : Int), I1 n3 n4 → (n4 < (l0.length : Int) → 0 ≤ n4 ∧ n4 < (l0.length : Int) ∧ n4.toNat
 < l0.length ∧ 0 ≤ n3 ∧ n3 < (l0.length : Int) ∧ n3.toNat < l0.length ∧ (Prod.fst (List.getD l0 (n4.toNat) (0, [])) < Prod.fst (List.getD l0 (n3.toNat) (0, [])) → (-9223372036854775808 ≤ n4 + 1 ∧ n4 + (1 : Int) ≤ (9223372036854775807 : Int))
 ∧ I1 n4 (n4 + 1) ∧ m2 n4 (n4 + 1) < m2 n3 n4) ∧ (¬Prod.fst (List.getD l0 (n4.toNat) (0, [])) < Prod.fst (List.getD l0 (n3.toNat) (0, [])) → (-9223372036854775808 ≤ n4 + 1 ∧ n4 + (1 : Int) ≤ (9223372036854775807 : Int)) ∧ I1 n3 (n4 + 1) ∧ m2
 n3 (n4 + 1) < m2 n3 n4)) ∧ (¬n4 < (l0.length : Int) → 0 ≤ n3 ∧ n3 < (l0.length : Int) ∧ n3.toNat < l0.length ∧ (0 : Int) ≤ 0 ∧ 0 ≤ n3 ∧ n3 ≤ (l0.length : Int) ∧ (↑(0 + List.length (List.take (Int.toNat (n3 - 0)) (List.drop (Int.toNat 0)
 l0))) : Int) ≤ 1099511627776 ∧ (-9223372036854775808 ≤ n3 + 1 ∧ n3 + (1 : Int) ≤ (9223372036854775807 : Int)) ∧ 0 ≤ n3 + 1 ∧ n3 + 1 ≤ (l0.length : Int) ∧ (l0.length : Int) ≤ (l0.length : Int) ∧ (↑(List.length (List.take (Int.toNat (n3 - 0))
 (List.drop (Int.toNat 0) l0)) + List.length (List.take (Int.toNat ((l0.length : Int) - (n3 + 1))) (List.drop (Int.toNat (n3 + 1)) l0))) : Int) ≤ 1099511627776 ∧ (Prod.fst (List.getD l0 (n3.toNat) (0, [])), Prod.snd (List.getD l0 (n3.toNat)
 (0, []))) = hA l0 ∧ List.take (Int.toNat (n3 - 0)) (List.drop (Int.toNat 0) l0) ++ List.take (Int.toNat ((l0.length : Int) - (n3 + 1))) (List.drop (Int.toNat (n3 + 1)) l0) = hG l0)
theorem v_i_LengthsOf_1 : V_i_LengthsOf_1 := by
  unfold V_i_LengthsOf_1
  rintro g ⟨h0, h1⟩
  obtain ⟨r0, r1⟩ := leastAt_range (g := g) (by omega)
  refine ⟨fun best i => 0 ≤ i ∧ i ≤ g.length ∧ 0 ≤ best ∧ best < g.length ∧ leastFrom g (g.drop i.toNat) i best = leastAt g, fun best i => (g.length - i).toNat, ?_, ?_⟩ <;> dsimp only
  · simp [leastAt]; omega
  rintro best i ⟨i0, i1, b0, b1, hI⟩
  refine ⟨fun hlt => ?_, fun hge => ?_⟩
  · rw [least_step i0 hlt] at hI
    refine ⟨i0, hlt, by omega, b0, b1, by omega, fun h => ?_, fun h => ?_⟩
    · rw [if_pos h] at hI; exact ⟨by omega, ⟨by omega, by omega, i0, hlt, hI⟩, by omega⟩
    · rw [if_neg h] at hI; exact ⟨by omega, ⟨by omega, by omega, b0, b1, hI⟩, by omega⟩
  · rw [least_end hge] at hI
    subst hI
    rw [without_slices]
    exact ⟨b0, b1, by omega, by omega, by omega, by omega, by simp; omega, by omega, by omega, by omega, by omega, by simp; omega, rfl, rfl⟩
def V_i_LengthsOf : Prop :=
  ∀ (l0 : List Int), (l0.length : Int) ≤ 1099511627776 → (l0.length : Int) ≤ 1099511627776 ∧ (true = cntOk l0 → ((l0.length : Int) ≤ 1000 ∧ allIn (-1000000) 1000000 l0 = true) ∧ ∀ (n1 : Int), n1 = sumL l0 → (n1 = 0 → false = Option.isSome
 (lengthsD l0) ∧ [] = Option.getD (lengthsD l0) []) ∧ (¬n1 = 0 → (8 : Int) = 8 ∧ (0 : Int) ≤ 8 ∧ (8 : Int) ≤ 1099511627776 ∧ ∃ (I2 : Int → List (Int × List Int) → Prop), ∃ (m3 : Int → List (Int × List Int) → Nat), I2 0 [] ∧ ∀ (n4 : Int) (l5 :
 List (Int × List Int)), I2 n4 l5 → (n4 < (l0.length : Int) → 0 ≤ n4 ∧ n4 < (l0.length : Int) ∧ (0 < List.getD l0 (n4.toNat) 0 → (↑(l5.length + List.length [(List.getD l0 (n4.toNat) 0, [n4])]) : Int) ≤ 1099511627776 ∧ (-9223372036854775808 ≤
 n4 + 1 ∧ n4 + (1 : Int) ≤ (9223372036854775807 : Int)) ∧ I2 (n4 + 1) (l5 ++ [(List.getD l0 (n4.toNat) 0, [n4])]) ∧ m3 (n4 + 1) (l5 ++ [(List.getD l0 (n4.toNat) 0, [n4])]) < m3 n4 l5) ∧ (¬0 < List.getD l0 (n4.toNat) 0 → (-9223372036854775808
 ≤ n4 + 1 ∧ n4 + (1 : Int) ≤ (9223372036854775807 : Int)) ∧ I2 (n4 + 1) l5 ∧ m3 (n4 + 1) l5 < m3 n4 l5)) ∧ (¬n4 < (l0.length : Int) → ((l5.length : Int) = 1 → (0 : Int) ≤ 0 ∧ 0 < (l5.length : Int) ∧ Int.toNat 0 < l5.length ∧ (0 : Int) ≤ 0 ∧ 0
 < (↑(List.length (Prod.snd (List.getD l5 (Int.toNat 0) (0, [])))) : Int) ∧ 0 ≤ List.getD (Prod.snd (List.getD l5 (Int.toNat 0) (0, []))) (Int.toNat 0) 0 ∧ List.getD (Prod.snd (List.getD l5 (Int.toNat 0) (0, []))) (Int.toNat 0) 0 <
 (↑(List.length (List.replicate (Int.toNat 8) (0 : Int))) : Int) ∧ Int.toNat (List.getD (Prod.snd (List.getD l5 (Int.toNat 0) (0, []))) (Int.toNat 0) 0) < List.length (List.replicate (Int.toNat 8) (0 : Int)) ∧ ∃ (I6 : List Int → List (Int ×
 List Int) → Prop), ∃ (m7 : List Int → List (Int × List Int) → Nat), I6 (List.set (List.replicate (Int.toNat 8) 0) (Int.toNat (List.getD (Prod.snd (List.getD l5 (Int.toNat 0) (0, []))) (Int.toNat 0) 0)) 1) l5 ∧ ∀ (l8 : List Int) (l9 : List
 (Int × List Int)), I6 l8 l9 → (1 < (l9.length : Int) → (1 ≤ (l9.length : Int) ∧ (l9.length : Int) ≤ 100) ∧ ∀ (l10 : List (Int × List Int)) (n11 : Int) (l12 : List Int), (n11, l12) = hA l9 ∧ l10 = hG l9 → (1 ≤ (l10.length : Int) ∧ (l10.length
 : Int) ≤ 100) ∧ ∀ (l13 : List (Int × List Int)) (n14 : Int) (l15 : List Int), (n14, l15) = hA l10 ∧ l13 = hG l10 → (-9223372036854775808 ≤ n11 + n14 ∧ n11 + n14 ≤ (9223372036854775807 : Int)) ∧ (∃ (xs : List Int), xs = l12) ∧ (l12.length :
 Int) ≤ 1099511627776 ∧ ∀ (l16 : List Int), l16 = l12 → (↑(l16.length + l15.length) : Int) ≤ 1099511627776 ∧ ∃ (I17 : Int → List Int → Prop), ∃ (m18 : Int → List Int → Nat), I17 0 l8 ∧ ∀ (n19 : Int) (l20 : List Int), I17 n19 l20 → (n19 <
 (↑(List.length (l16 ++ l15)) : Int) → 0 ≤ n19 ∧ n19 < (↑(List.length (l16 ++ l15)) : Int) ∧ n19.toNat < List.length (l16 ++ l15) ∧ 0 ≤ List.getD (l16 ++ l15) (n19.toNat) 0 ∧ List.getD (l16 ++ l15) (n19.toNat) 0 < (l20.length : Int) ∧
 Int.toNat (List.getD (l16 ++ l15) (n19.toNat) 0) < l20.length ∧ (-9223372036854775808 ≤ List.getD l20 (Int.toNat (List.getD (l16 ++ l15) (n19.toNat) 0)) 0 + 1 ∧ List.getD l20 (Int.toNat (List.getD (l16 ++ l15) (n19.toNat) 0)) 0 + (1 : Int) ≤
 (9223372036854775807 : Int)) ∧ 0 ≤ List.getD (l16 ++ l15) (n19.toNat) 0 ∧ List.getD (l16 ++ l15) (n19.toNat) 0 < (l20.length : Int) ∧ Int.toNat (List.getD (l16 ++ l15) (n19.toNat) 0) < l20.length ∧ (-9223372036854775808 ≤ n19 + 1 ∧ n19 + (1
 : Int) ≤ (9223372036854775807 : Int)) ∧ I17 (n19 + 1) (List.set l20 (Int.toNat (List.getD (l16 ++ l15) (n19.toNat) 0)) (List.getD l20 (Int.toNat (List.getD (l16 ++ l15) (n19.toNat) 0)) 0 + 1)) ∧ m18 (n19 + 1) (List.set l20 (Int.toNat
 (List.getD (l16 ++ l15) (n19.toNat) 0)) (List.getD l20 (Int.toNat (List.getD (l16 ++ l15) (n19.toNat) 0)) 0 + 1)) < m18 n19 l20) ∧ (¬n19 < (↑(List.length (l16 ++ l15)) : Int) → (↑(l13.length + List.length [(n11 + n14, l16 ++ l15)]) : Int) ≤
 1099511627776 ∧ I6 l20 (l13 ++ [(n11 + n14, l16 ++ l15)]) ∧ m7 l20 (l13 ++ [(n11 + n14, l16 ++ l15)]) < m7 l8 l9)) ∧ (¬1 < (l9.length : Int) → true = Option.isSome (lengthsD l0) ∧ l8 = Option.getD (lengthsD l0) [])) ∧ (¬(l5.length : Int) = 1
 → ∃ (I21 : List Int → List (Int × List Int) → Prop), ∃ (m22 : List Int → List (Int × List Int) → Nat), I21 (List.replicate (Int.toNat 8) 0) l5 ∧ ∀ (l23 : List Int) (l24 : List (Int × List Int)), I21 l23 l24 → (1 < (l24.length : Int) → (1 ≤
 (l24.length : Int) ∧ (l24.length : Int) ≤ 100) ∧ ∀ (l25 : List (Int × List Int)) (n26 : Int) (l27 : List Int), (n26, l27) = hA l24 ∧ l25 = hG l24 → (1 ≤ (l25.length : Int) ∧ (l25.length : Int) ≤ 100) ∧ ∀ (l28 : List (Int × List Int)) (n29 :
 Int) (l30 : List Int), (n29, l30) = hA l25 ∧ l28 = hG l25 → (-9223372036854775808 ≤ n26 + n29 ∧ n26 + n29 ≤ (9223372036854775807 : Int)) ∧ (∃ (xs : List Int), xs = l27) ∧ (l27.length : Int) ≤ 1099511627776 ∧ ∀ (l31 : List Int), l31 = l27 →
 (↑(l31.length + l30.length) : Int) ≤ 1099511627776 ∧ ∃ (I32 : Int → List Int → Prop), ∃ (m33 : Int → List Int → Nat), I32 0 l23 ∧ ∀ (n34 : Int) (l35 : List Int), I32 n34 l35 → (n34 < (↑(List.length (l31 ++ l30)) : Int) → 0 ≤ n34 ∧ n34 <
 (↑(List.length (l31 ++ l30)) : Int) ∧ n34.toNat < List.length (l31 ++ l30) ∧ 0 ≤ List.getD (l31 ++ l30) (n34.toNat) 0 ∧ List.getD (l31 ++ l30) (n34.toNat) 0 < (l35.length : Int) ∧ Int.toNat (List.getD (l31 ++ l30) (n34.toNat) 0) < l35.length
 ∧ (-9223372036854775808 ≤ List.getD l35 (Int.toNat (List.getD (l31 ++ l30) (n34.toNat) 0)) 0 + 1 ∧ List.getD l35 (Int.toNat (List.getD (l31 ++ l30) (n34.toNat) 0)) 0 + (1 : Int) ≤ (9223372036854775807 : Int)) ∧ 0 ≤ List.getD (l31 ++ l30)
 (n34.toNat) 0 ∧ List.getD (l31 ++ l30) (n34.toNat) 0 < (l35.length : Int) ∧ Int.toNat (List.getD (l31 ++ l30) (n34.toNat) 0) < l35.length ∧ (-9223372036854775808 ≤ n34 + 1 ∧ n34 + (1 : Int) ≤ (9223372036854775807 : Int)) ∧ I32 (n34 + 1)
 (List.set l35 (Int.toNat (List.getD (l31 ++ l30) (n34.toNat) 0)) (List.getD l35 (Int.toNat (List.getD (l31 ++ l30) (n34.toNat) 0)) 0 + 1)) ∧ m33 (n34 + 1) (List.set l35 (Int.toNat (List.getD (l31 ++ l30) (n34.toNat) 0)) (List.getD l35
 (Int.toNat (List.getD (l31 ++ l30) (n34.toNat) 0)) 0 + 1)) < m33 n34 l35) ∧ (¬n34 < (↑(List.length (l31 ++ l30)) : Int) → (↑(l28.length + List.length [(n26 + n29, l31 ++ l30)]) : Int) ≤ 1099511627776 ∧ I21 l35 (l28 ++ [(n26 + n29, l31 ++
 l30)]) ∧ m22 l35 (l28 ++ [(n26 + n29, l31 ++ l30)]) < m22 l23 l24)) ∧ (¬1 < (l24.length : Int) → true = Option.isSome (lengthsD l0) ∧ l23 = Option.getD (lengthsD l0) []))))) ∧ (false = cntOk l0 → false = Option.isSome (lengthsD l0) ∧ [] =
 Option.getD (lengthsD l0) [])
theorem v_i_LengthsOf : V_i_LengthsOf := by
  unfold V_i_LengthsOf
  intro c hz
  have hno : ¬ (cntOk c = true ∧ ¬ sumL c = 0) → lengthsD c = none := fun h => if_neg h
  refine ⟨hz, fun hv => ?_, fun hv => ?_⟩
  · obtain ⟨h8, ha⟩ := cntOk_len hv.symm
    refine ⟨⟨by omega, ha⟩, ?_⟩
    rintro n1 rfl
    refine ⟨fun h0 => by rw [hno (fun h => h.2 h0)]; simp, fun h0 => ⟨rfl, by omega, by omega, ?_⟩⟩
    have hD : lengthsD c = some (huff (groups0 0 c).length (groups0 0 c) (lengths0 (groups0 0 c))) := if_pos ⟨hv.symm, h0⟩
    rw [hD]
    simp only [Option.isSome_some, Option.getD_some]
    refine ⟨fun i g => 0 ≤ i ∧ i ≤ c.length ∧ g = groups0 0 (c.take i.toNat) ∧ (g.length : Int) ≤ i, fun i g => (c.length - i).toNat, ?_, ?_⟩ <;> dsimp only
    · simp [groups0]
    rintro i g ⟨i0, i1, hg, hgl⟩
    refine ⟨fun hlt => ?_, fun hge => ?_⟩
    · have hs := groups0_step i0 hlt
      rw [← hg] at hs
      refine ⟨i0, hlt, fun h => ?_, fun h => ?_⟩
      · rw [if_pos h] at hs
        exact ⟨by simp; omega, by omega, ⟨by omega, by omega, hs.symm, by simp; omega⟩, by omega⟩
      · rw [if_neg h, List.append_nil] at hs
        exact ⟨by omega, ⟨by omega, by omega, hs.symm, by omega⟩, by omega⟩
    · rw [take_ge hge] at hg
      subst hg
      have H0 := HOk0 hv.symm
      generalize hF : huff (groups0 0 c).length (groups0 0 c) (lengths0 (groups0 0 c)) = F
      have h1' := groups0_one hv.symm
      generalize groups0 0 c = G at *
      refine ⟨fun h1 => ?_, fun h1 => ?_⟩
      · obtain ⟨w, s, q1, q2, q3⟩ := h1' (by omega)
        have hL : lengths0 G = (List.replicate (Int.toNat 8) 0).set s.toNat 1 := by unfold lengths0; rw [if_pos (by omega), q1]; rfl
        simp only [Int.toNat_zero, q1, List.getD_cons_zero, List.length_cons, List.length_nil, List.length_replicate]
        rw [← hL]
        refine ⟨by omega, by omega, by omega, by omega, by omega, by omega, by omega, by omega, ?_⟩
        refine ⟨fun o g => HOk g o ∧ huff g.length g o = F, fun o g => g.length, ?_, ?_⟩ <;> dsimp only
        · exact ⟨H0, hF⟩
        rintro o g ⟨hok, hI⟩
        have hlen := hok.len
        have ho8 := hok.o8
        refine ⟨fun hl => ⟨⟨by omega, by omega⟩, ?_⟩, fun hl => ?_⟩
        · obtain ⟨t1, t2, t3, t4, t5, t6, t7, t8⟩ := hok.step (by omega)
          have hstep := huff_step (o := o) (show 1 < g.length by omega) t3
          rw [hI] at hstep
          rintro g1 w1 s1 ⟨e1, rfl⟩
          refine ⟨⟨by omega, by omega⟩, ?_⟩
          rintro g2 w2 s2 ⟨e2, rfl⟩
          have ew1 : w1 = (hA g).1 := by rw [← e1]
          have es1 : s1 = (hA g).2 := by rw [← e1]
          have ew2 : w2 = (hA (hG g)).1 := by rw [← e2]
          have es2 : s2 = (hA (hG g)).2 := by rw [← e2]
          have eC : (hC g).2 = s1 ++ s2 := by rw [es1, es2]; rfl
          have eN : hN g = hG (hG g) ++ [(w1 + w2, s1 ++ s2)] := by rw [ew1, ew2, es1, es2]; rfl
          rw [← ew1] at t4
          rw [← ew2] at t5
          rw [eC] at t6 t7 t8 hstep
          have hCl : ((s1 ++ s2).length : Int) = s1.length + s2.length := by simp
          rw [eN] at t8 hstep t3
          clear eC eN ew1 es1 ew2 es2 e1 e2 hI
          generalize hG (hG g) = g2 at *
          refine ⟨by omega, ⟨_, rfl⟩, by omega, ?_⟩
          rintro x rfl
          refine ⟨by omega, ?_⟩
          generalize hS : x ++ s2 = S at *
          refine ⟨fun n o' => 0 ≤ n ∧ n ≤ S.length ∧ o' = bumps o (S.take n.toNat), fun n o' => (S.length - n).toNat, ?_, ?_⟩ <;> dsimp only
          · simp [bumps]
          rintro n o' ⟨n0, n1, rfl⟩
          refine ⟨fun hlt => ?_, fun hge => ?_⟩
          · have hb := bumps_step (o := o) n0 hlt
            have hs := t7 (S.getD n.toNat 0) (by
              have : n.toNat < S.length := by omega
              simp [List.getD_eq_getElem?_getD, this])
            have hv1 := bumps_get (S.take n.toNat) o (S.getD n.toNat 0).toNat
            have hv2 := hok.bd (S.getD n.toNat 0).toNat
            have hv3 : (S.take n.toNat).length ≤ S.length := by simp; omega
            rw [bumps_len, ho8]
            refine ⟨n0, hlt, by omega, hs.1, by omega, by omega, by omega, hs.1, by omega, by omega, by omega, ⟨by omega, by omega, hb.symm⟩, by omega⟩
          · rw [take_ge hge]
            refine ⟨by simp; omega, ⟨t8, hstep.symm⟩, by simp at t3 ⊢; omega⟩
        · rw [huff_end (by omega)] at hI
          exact ⟨by trivial, hI⟩
      · have hL : lengths0 G = List.replicate (Int.toNat 8) 0 := by unfold lengths0; rw [if_neg (by omega)]; rfl
        rw [← hL]
        refine ⟨fun o g => HOk g o ∧ huff g.length g o = F, fun o g => g.length, ?_, ?_⟩ <;> dsimp only
        · exact ⟨H0, hF⟩
        rintro o g ⟨hok, hI⟩
        have hlen := hok.len
        have ho8 := hok.o8
        refine ⟨fun hl => ⟨⟨by omega, by omega⟩, ?_⟩, fun hl => ?_⟩
        · obtain ⟨t1, t2, t3, t4, t5, t6, t7, t8⟩ := hok.step (by omega)
          have hstep := huff_step (o := o) (show 1 < g.length by omega) t3
          rw [hI] at hstep
          rintro g1 w1 s1 ⟨e1, rfl⟩
          refine ⟨⟨by omega, by omega⟩, ?_⟩
          rintro g2 w2 s2 ⟨e2, rfl⟩
          have ew1 : w1 = (hA g).1 := by rw [← e1]
          have es1 : s1 = (hA g).2 := by rw [← e1]
          have ew2 : w2 = (hA (hG g)).1 := by rw [← e2]
          have es2 : s2 = (hA (hG g)).2 := by rw [← e2]
          have eC : (hC g).2 = s1 ++ s2 := by rw [es1, es2]; rfl
          have eN : hN g = hG (hG g) ++ [(w1 + w2, s1 ++ s2)] := by rw [ew1, ew2, es1, es2]; rfl
          rw [← ew1] at t4
          rw [← ew2] at t5
          rw [eC] at t6 t7 t8 hstep
          have hCl : ((s1 ++ s2).length : Int) = s1.length + s2.length := by simp
          rw [eN] at t8 hstep t3
          clear eC eN ew1 es1 ew2 es2 e1 e2 hI
          generalize hG (hG g) = g2 at *
          refine ⟨by omega, ⟨_, rfl⟩, by omega, ?_⟩
          rintro x rfl
          refine ⟨by omega, ?_⟩
          generalize hS : x ++ s2 = S at *
          refine ⟨fun n o' => 0 ≤ n ∧ n ≤ S.length ∧ o' = bumps o (S.take n.toNat), fun n o' => (S.length - n).toNat, ?_, ?_⟩ <;> dsimp only
          · simp [bumps]
          rintro n o' ⟨n0, n1, rfl⟩
          refine ⟨fun hlt => ?_, fun hge => ?_⟩
          · have hb := bumps_step (o := o) n0 hlt
            have hs := t7 (S.getD n.toNat 0) (by
              have : n.toNat < S.length := by omega
              simp [List.getD_eq_getElem?_getD, this])
            have hv1 := bumps_get (S.take n.toNat) o (S.getD n.toNat 0).toNat
            have hv2 := hok.bd (S.getD n.toNat 0).toNat
            have hv3 : (S.take n.toNat).length ≤ S.length := by simp; omega
            rw [bumps_len, ho8]
            refine ⟨n0, hlt, by omega, hs.1, by omega, by omega, by omega, hs.1, by omega, by omega, by omega, ⟨by omega, by omega, hb.symm⟩, by omega⟩
          · rw [take_ge hge]
            refine ⟨by simp; omega, ⟨t8, hstep.symm⟩, by simp at t3 ⊢; omega⟩
        · rw [huff_end (by omega)] at hI
          exact ⟨by trivial, hI⟩
  · rw [hno (fun h => by rw [← hv] at h; cases h.1)]; simp
def V_s_l4Order : Prop :=
  True → ∃ (I0 : List Int → Int → Prop), ∃ (m1 : List Int → Int → Nat), I0 [] 0 ∧ ∀ (l2 : List Int) (n3 : Int), I0 l2 n3 → (n3 < 8 → (↑(l2.length + List.length [n3]) : Int) ≤ 1099511627776 ∧ (-9223372036854775808 ≤ n3 + 1 ∧ n3 + (1 : Int) ≤
 (9223372036854775807 : Int)) ∧ I0 (l2 ++ [n3]) (n3 + 1) ∧ m1 (l2 ++ [n3]) (n3 + 1) < m1 l2 n3) ∧ (¬n3 < 8 → l2 = [0, 1, 2, 3, 4, 5, 6, 7])
theorem v_s_l4Order : V_s_l4Order := by
  unfold V_s_l4Order
  rintro -
  refine ⟨fun o i => 0 ≤ i ∧ i ≤ 8 ∧ o = [0, 1, 2, 3, 4, 5, 6, 7].take i.toNat, fun o i => (8 - i).toNat, ?_, ?_⟩ <;> dsimp only
  · simp
  rintro o i ⟨h0, h1, rfl⟩
  refine ⟨fun hlt => ?_, fun hge => by rw [show i = 8 by omega]; rfl⟩
  have h : i = 0 ∨ i = 1 ∨ i = 2 ∨ i = 3 ∨ i = 4 ∨ i = 5 ∨ i = 6 ∨ i = 7 := by omega
  rcases h with rfl | rfl | rfl | rfl | rfl | rfl | rfl | rfl <;> simp
def V_s_l11Least : Prop :=
  ∀ (l0 : List Int), (l0.length : Int) ≤ 1099511627776 → ∃ (I1 : Int → Int → Prop), ∃ (m2 : Int → Int → Nat), I1 (-1) 0 ∧ ∀ (n3 n4 : Int), I1 n3 n4 → (n4 < (l0.length : Int) → 0 ≤ n4 ∧ n4 < (l0.length : Int) ∧ (0 < List.getD l0 (n4.toNat) 0 →
 (n3 < 0 → (-9223372036854775808 ≤ n4 + 1 ∧ n4 + (1 : Int) ≤ (9223372036854775807 : Int)) ∧ I1 n4 (n4 + 1) ∧ m2 n4 (n4 + 1) < m2 n3 n4) ∧ (¬n3 < 0 → 0 ≤ n4 ∧ n4 < (l0.length : Int) ∧ 0 ≤ n3 ∧ n3 < (l0.length : Int) ∧ (List.getD l0 (n4.toNat)
 0 < List.getD l0 (n3.toNat) 0 → (-9223372036854775808 ≤ n4 + 1 ∧ n4 + (1 : Int) ≤ (9223372036854775807 : Int)) ∧ I1 n4 (n4 + 1) ∧ m2 n4 (n4 + 1) < m2 n3 n4) ∧ (¬List.getD l0 (n4.toNat) 0 < List.getD l0 (n3.toNat) 0 → (-9223372036854775808 ≤
 n4 + 1 ∧ n4 + (1 : Int) ≤ (9223372036854775807 : Int)) ∧ I1 n3 (n4 + 1) ∧ m2 n3 (n4 + 1) < m2 n3 n4))) ∧ (¬0 < List.getD l0 (n4.toNat) 0 → (-9223372036854775808 ≤ n4 + 1 ∧ n4 + (1 : Int) ≤ (9223372036854775807 : Int)) ∧ I1 n3 (n4 + 1) ∧ m2
 n3 (n4 + 1) < m2 n3 n4)) ∧ (¬n4 < (l0.length : Int) → n3 = leftAt l0)
theorem v_s_l11Least : V_s_l11Least := by
  unfold V_s_l11Least
  intro w hz
  refine ⟨fun best i => 0 ≤ i ∧ i ≤ w.length ∧ -1 ≤ best ∧ best < w.length ∧ leftFrom w (w.drop i.toNat) i best = leftAt w, fun best i => (w.length - i).toNat, ?_, ?_⟩ <;> dsimp only
  · simp [leftAt]; omega
  rintro best i ⟨i0, i1, b0, b1, hI⟩
  refine ⟨fun hlt => ?_, fun hge => by rw [left_end hge] at hI; exact hI⟩
  rw [left_step i0 hlt] at hI
  refine ⟨i0, hlt, fun hp => ⟨fun hb => ?_, fun hb => ⟨i0, hlt, by omega, b1, fun hw => ?_, fun hw => ?_⟩⟩, fun hp => ?_⟩
  · rw [if_pos ⟨hp, .inl hb⟩] at hI; exact ⟨by omega, ⟨by omega, by omega, by omega, by omega, hI⟩, by omega⟩
  · rw [if_pos ⟨hp, .inr hw⟩] at hI; exact ⟨by omega, ⟨by omega, by omega, by omega, by omega, hI⟩, by omega⟩
  · rw [if_neg (fun h => h.2.elim hb hw)] at hI; exact ⟨by omega, ⟨by omega, by omega, by omega, by omega, hI⟩, by omega⟩
  · rw [if_neg (fun h => hp h.1)] at hI; exact ⟨by omega, ⟨by omega, by omega, by omega, by omega, hI⟩, by omega⟩
def V_s_l11Join : Prop :=
  ∀ (l0 l1 : List Int) (n2 n3 : Int), (l0.length : Int) ≤ 8 ∧ (l0.length : Int) ≤ (l1.length : Int) ∧ (l1.length : Int) ≤ 8 ∧ allIn 0 1000 l1 = true → ∃ (I4 : Int → List Int → List Int → Prop), ∃ (m5 : Int → List Int → List Int → Nat), I4 0 l0
 l1 ∧ ∀ (n6 : Int) (l7 l8 : List Int), I4 n6 l7 l8 → (n6 < (l7.length : Int) → 0 ≤ n6 ∧ n6 < (l7.length : Int) ∧ n6.toNat < l7.length ∧ (List.getD l7 (n6.toNat) 0 = n2 → 0 ≤ n6 ∧ n6 < (l8.length : Int) ∧ n6.toNat < l8.length ∧
 (-9223372036854775808 ≤ List.getD l8 (n6.toNat) 0 + 1 ∧ List.getD l8 (n6.toNat) 0 + (1 : Int) ≤ (9223372036854775807 : Int)) ∧ 0 ≤ n6 ∧ n6 < (l8.length : Int) ∧ n6.toNat < l8.length ∧ 0 ≤ n6 ∧ n6 < (l7.length : Int) ∧ n6.toNat < l7.length ∧
 (-9223372036854775808 ≤ n6 + 1 ∧ n6 + (1 : Int) ≤ (9223372036854775807 : Int)) ∧ I4 (n6 + 1) (List.set l7 (n6.toNat) n3) (List.set l8 (n6.toNat) (List.getD l8 (n6.toNat) 0 + 1)) ∧ m5 (n6 + 1) (List.set l7 (n6.toNat) n3) (List.set l8
 (n6.toNat) (List.getD l8 (n6.toNat) 0 + 1)) < m5 n6 l7 l8) ∧ (¬List.getD l7 (n6.toNat) 0 = n2 → (-9223372036854775808 ≤ n6 + 1 ∧ n6 + (1 : Int) ≤ (9223372036854775807 : Int)) ∧ I4 (n6 + 1) l7 l8 ∧ m5 (n6 + 1) l7 l8 < m5 n6 l7 l8)) ∧ (¬n6 <
 (l7.length : Int) → l7 = joinG l0 n2 n3 ∧ l8 = joinL l0 l1 n2)
theorem v_s_l11Join : V_s_l11Join := by
  unfold V_s_l11Join
  rintro gr le f t ⟨h0, h1, h2, h3⟩
  refine ⟨fun i g l => 0 ≤ i ∧ i ≤ gr.length ∧ g.length = gr.length ∧ l.length = le.length ∧ g.drop i.toNat = gr.drop i.toNat ∧ l.drop i.toNat = le.drop i.toNat ∧ g.take i.toNat ++ joinG (gr.drop i.toNat) f t = joinG gr f t ∧ l.take i.toNat ++ joinL (gr.drop i.toNat) (le.drop i.toNat) f = joinL gr le f, fun i g l => (gr.length - i).toNat, ?_, ?_⟩ <;> dsimp only
  · simp
  rintro i g l ⟨i0, i1, gl, ll, hg, hl, hG, hL⟩
  refine ⟨fun hlt => ?_, fun hge => ?_⟩
  · have hlt' : i < (gr.length : Int) := by omega
    rw [joinG_step i0 hlt'] at hG
    rw [joinL_step i0 hlt' (by omega)] at hL
    have eg := getD_drop hg
    have el := getD_drop hl
    have hb : 0 ≤ le.getD i.toNat 0 ∧ le.getD i.toNat 0 ≤ 1000 := by
      have : i.toNat < le.length := by omega
      exact allIn_iff.1 h3 _ (by simp [List.getD_eq_getElem?_getD, this])
    rw [eg, el]
    refine ⟨i0, hlt, by omega, fun he => ?_, fun he => ?_⟩
    · rw [if_pos he] at hG hL
      refine ⟨i0, by omega, by omega, by omega, i0, by omega, by omega, i0, hlt, by omega, by omega, ⟨by omega, by omega, by simp; omega, by simp; omega, ?_, ?_, ?_, ?_⟩, by omega⟩
      · rw [set_drop i0]; exact drop_more i0 hg
      · rw [set_drop i0]; exact drop_more i0 hl
      · rw [set_take i0 hlt]; simpa using hG
      · rw [set_take i0 (by omega)]; simpa using hL
    · rw [if_neg he] at hG hL
      refine ⟨by omega, ⟨by omega, by omega, gl, ll, drop_more i0 hg, drop_more i0 hl, ?_, ?_⟩, by omega⟩
      · rw [take_lt 0 i0 hlt, eg]; simpa using hG
      · rw [take_lt 0 i0 (by omega), el]; simpa using hL
  · obtain ⟨e1, e2, _⟩ := join_end (gr := gr) (le := le.drop i.toNat) (f := f) (t := t) (i := i) (by omega)
    rw [e1, List.append_nil, List.take_of_length_le (by omega)] at hG
    rw [e2, ← hl, List.take_append_drop] at hL
    exact ⟨hG, hL⟩
def V_s_l11Used : Prop :=
  ∀ (l0 l1 : List Int), (l0.length : Int) ≤ 8 ∧ (l0.length : Int) ≤ (l1.length : Int) ∧ (l1.length : Int) ≤ 8 → (↑(0 + l1.length) : Int) ≤ 1099511627776 ∧ ∃ (I2 : Int → List Int → Prop), ∃ (m3 : Int → List Int → Nat), I2 0 l1 ∧ ∀ (n4 : Int)
 (l5 : List Int), I2 n4 l5 → (n4 < (l0.length : Int) → 0 ≤ n4 ∧ n4 < (l0.length : Int) ∧ (List.getD l0 (n4.toNat) (0 : Int) = 0 → 0 ≤ n4 ∧ n4 < (l5.length : Int) ∧ n4.toNat < l5.length ∧ (-9223372036854775808 ≤ n4 + 1 ∧ n4 + (1 : Int) ≤
 (9223372036854775807 : Int)) ∧ I2 (n4 + 1) (List.set l5 (n4.toNat) 0) ∧ m3 (n4 + 1) (List.set l5 (n4.toNat) 0) < m3 n4 l5) ∧ (¬List.getD l0 (n4.toNat) (0 : Int) = 0 → (-9223372036854775808 ≤ n4 + 1 ∧ n4 + (1 : Int) ≤ (9223372036854775807 :
 Int)) ∧ I2 (n4 + 1) l5 ∧ m3 (n4 + 1) l5 < m3 n4 l5)) ∧ (¬n4 < (l0.length : Int) → l5 = usedL l0 l1)
theorem v_s_l11Used : V_s_l11Used := by
  unfold V_s_l11Used
  rintro c le ⟨h0, h1, h2⟩
  refine ⟨by omega, ?_⟩
  refine ⟨fun i l => 0 ≤ i ∧ i ≤ c.length ∧ l.length = le.length ∧ l.drop i.toNat = le.drop i.toNat ∧ l.take i.toNat ++ usedL (c.drop i.toNat) (le.drop i.toNat) = usedL c le, fun i l => (c.length - i).toNat, ?_, ?_⟩ <;> dsimp only
  · simp
  rintro i l ⟨i0, i1, ll, hl, hL⟩
  refine ⟨fun hlt => ?_, fun hge => ?_⟩
  · rw [usedL_step i0 hlt (by omega)] at hL
    have el := getD_drop hl
    refine ⟨i0, hlt, fun he => ?_, fun he => ?_⟩
    · rw [if_pos he] at hL
      refine ⟨i0, by omega, by omega, by omega, ⟨by omega, by omega, by simp; omega, ?_, ?_⟩, by omega⟩
      · rw [set_drop i0]; exact drop_more i0 hl
      · rw [set_take i0 (by omega)]; simpa using hL
    · rw [if_neg he] at hL
      refine ⟨by omega, ⟨by omega, by omega, ll, drop_more i0 hl, ?_⟩, by omega⟩
      rw [take_lt 0 i0 (by omega), el]; simpa using hL
  · obtain ⟨_, _, e3⟩ := join_end (gr := c) (le := le.drop i.toNat) (f := 0) (t := 0) (i := i) hge
    rw [e3, ← hl, List.take_append_drop] at hL
    exact hL
def V_s_LengthsOf : Prop :=
  ∀ (l0 : List Int), (l0.length : Int) ≤ 1099511627776 → (l0.length : Int) ≤ 1099511627776 ∧ (true = cntOk l0 → ((l0.length : Int) ≤ 1000 ∧ allIn (-1000000) 1000000 l0 = true) ∧ ∀ (n1 : Int), n1 = sumL l0 → (n1 = 0 → false = Option.isSome
 (lengthsD l0) ∧ [] = Option.getD (lengthsD l0) []) ∧ (¬n1 = 0 → (↑(0 + l0.length) : Int) ≤ 1099511627776 ∧ True ∧ ∀ (l2 : List Int), l2 = [0, 1, 2, 3, 4, 5, 6, 7] → (8 : Int) = 8 ∧ (0 : Int) ≤ 8 ∧ (8 : Int) ≤ 1099511627776 ∧ (l0.length :
 Int) ≤ 1099511627776 ∧ ∀ (n3 : Int), n3 = leftAt l0 → (∃ (n : Int), n = sumL l0) ∧ ((l0.length : Int) ≤ 1000 ∧ allIn (-1000000) 1000000 l0 = true) ∧ ∀ (n4 : Int), n4 = sumL l0 → 0 ≤ n3 ∧ n3 < (l0.length : Int) ∧ (n4 = List.getD l0 (n3.toNat)
 0 → 0 ≤ n3 ∧ n3 < (↑(List.length (List.replicate (Int.toNat 8) (0 : Int))) : Int) ∧ n3.toNat < List.length (List.replicate (Int.toNat 8) (0 : Int)) ∧ true = Option.isSome (lengthsD l0) ∧ List.set (List.replicate (Int.toNat 8) 0) (n3.toNat) 1
 = Option.getD (lengthsD l0) []) ∧ (¬n4 = List.getD l0 (n3.toNat) 0 → ∃ (I5 : List Int → List Int → List Int → Prop), ∃ (m6 : List Int → List Int → List Int → Nat), I5 l0 l2 (List.replicate (Int.toNat 8) 0) ∧ ∀ (l7 l8 l9 : List Int), I5 l7 l8
 l9 → ((l7.length : Int) ≤ 1000 ∧ allIn (-1000000) 1000000 l7 = true) ∧ ∀ (n10 : Int), n10 = sumL l7 → (0 < n10 → (l7.length : Int) ≤ 1099511627776 ∧ ∀ (n11 : Int), n11 = leftAt l7 → 0 ≤ n11 ∧ n11 < (l7.length : Int) ∧ n11.toNat < l7.length ∧
 0 ≤ n11 ∧ n11 < (l7.length : Int) ∧ n11.toNat < l7.length ∧ (↑(List.length (List.set l7 (n11.toNat) 0)) : Int) ≤ 1099511627776 ∧ ∀ (n12 : Int), n12 = leftAt (List.set l7 (n11.toNat) 0) → (n12 < 0 → ((l0.length : Int) ≤ 8 ∧ (l0.length : Int)
 ≤ (l9.length : Int) ∧ (l9.length : Int) ≤ 8) ∧ ∀ (l13 : List Int), l13 = usedL l0 l9 → true = Option.isSome (lengthsD l0) ∧ l13 = Option.getD (lengthsD l0) []) ∧ (¬n12 < 0 → 0 ≤ n12 ∧ n12 < (↑(List.length (List.set l7 (n11.toNat) 0)) : Int)
 ∧ n12.toNat < List.length (List.set l7 (n11.toNat) 0) ∧ 0 ≤ n12 ∧ n12 < (↑(List.length (List.set l7 (n11.toNat) 0)) : Int) ∧ n12.toNat < List.length (List.set l7 (n11.toNat) 0) ∧ ((l8.length : Int) ≤ 8 ∧ (l8.length : Int) ≤ (l9.length : Int)
 ∧ (l9.length : Int) ≤ 8 ∧ allIn 0 1000 l9 = true) ∧ ∀ (l14 l15 : List Int), l14 = joinG l8 n11 (↑(List.length (List.set (List.set l7 (n11.toNat) 0) (n12.toNat) 0)) : Int) ∧ l15 = joinL l8 l9 n11 → ((l14.length : Int) ≤ 8 ∧ (l14.length : Int)
 ≤ (l15.length : Int) ∧ (l15.length : Int) ≤ 8 ∧ allIn 0 1000 l15 = true) ∧ ∀ (l16 l17 : List Int), l16 = joinG l14 n12 (↑(List.length (List.set (List.set l7 (n11.toNat) 0) (n12.toNat) 0)) : Int) ∧ l17 = joinL l14 l15 n12 →
 (-9223372036854775808 ≤ List.getD l7 (n11.toNat) 0 + List.getD (List.set l7 (n11.toNat) 0) (n12.toNat) 0 ∧ List.getD l7 (n11.toNat) 0 + List.getD (List.set l7 (n11.toNat) 0) (n12.toNat) (0 : Int) ≤ (9223372036854775807 : Int)) ∧
 (↑(List.length (List.set (List.set l7 (n11.toNat) 0) (n12.toNat) 0) + List.length [List.getD l7 (n11.toNat) 0 + List.getD (List.set l7 (n11.toNat) 0) (n12.toNat) 0]) : Int) ≤ 1099511627776 ∧ I5 (List.set (List.set l7 (n11.toNat) 0)
 (n12.toNat) 0 ++ [List.getD l7 (n11.toNat) 0 + List.getD (List.set l7 (n11.toNat) 0) (n12.toNat) 0]) l16 l17 ∧ m6 (List.set (List.set l7 (n11.toNat) 0) (n12.toNat) 0 ++ [List.getD l7 (n11.toNat) 0 + List.getD (List.set l7 (n11.toNat) 0)
 (n12.toNat) 0]) l16 l17 < m6 l7 l8 l9)) ∧ (¬0 < n10 → ((l0.length : Int) ≤ 8 ∧ (l0.length : Int) ≤ (l9.length : Int) ∧ (l9.length : Int) ≤ 8) ∧ ∀ (l18 : List Int), l18 = usedL l0 l9 → true = Option.isSome (lengthsD l0) ∧ l18 = Option.getD
 (lengthsD l0) [])))) ∧ (false = cntOk l0 → false = Option.isSome (lengthsD l0) ∧ [] = Option.getD (lengthsD l0) [])
theorem v_s_LengthsOf : V_s_LengthsOf := by
  unfold V_s_LengthsOf
  intro c hz
  have hno : ¬ (cntOk c = true ∧ ¬ sumL c = 0) → lengthsD c = none := fun h => if_neg h
  refine ⟨hz, fun hv => ?_, fun hv => ?_⟩
  · obtain ⟨h8, ha⟩ := cntOk_len hv.symm
    have hpos : ∀ x ∈ c, 0 ≤ x := fun x hx => by
      have hv' := hv.symm
      simp only [cntOk, Bool.and_eq_true] at hv'
      exact (allIn_iff.1 hv'.2 x hx).1
    have hs0 : 0 ≤ sumL c := by
      have := sumW_pos (g := specG [] 0 c) (fun x hx => by obtain ⟨j, _, q, rfl⟩ := mem_specG hx; exact q)
      rw [sumW_specG hpos] at this; omega
    refine ⟨⟨by omega, ha⟩, ?_⟩
    rintro n1 rfl
    refine ⟨fun h0 => by rw [hno (fun h => h.2 h0)]; simp, fun h0 => ⟨by omega, trivial, ?_⟩⟩
    have hD : lengthsD c = some (huff (groups0 0 c).length (groups0 0 c) (lengths0 (groups0 0 c))) := if_pos ⟨hv.symm, h0⟩
    rw [hD]
    simp only [Option.isSome_some, Option.getD_some]
    rintro gr0 rfl
    refine ⟨by trivial, by omega, by omega, by omega, ?_⟩
    rintro a0 ha0
    obtain ⟨a, ha1, ha2, ha3⟩ := left_some hpos (by omega)
    refine ⟨⟨_, rfl⟩, ⟨by omega, ha⟩, ?_⟩
    rintro n4 rfl
    have ea : a0.toNat = a := by omega
    rw [ea]
    refine ⟨by omega, by omega, fun h1 => ?_, fun h1 => ?_⟩
    · obtain ⟨q1, q2⟩ := spec_one hv.symm ha1 ha2 h1
      rw [q2, huff_end (by omega)]
      exact ⟨by omega, by simp; omega, by simp; omega, by trivial, rfl⟩
    · have q1 := spec_many hv.symm ha1 ha2 h1
      have hS := sinv0 hv.symm q1
      have hL : lengths0 (groups0 0 c) = zeros8 := if_neg q1
      generalize hF : huff (groups0 0 c).length (groups0 0 c) (lengths0 (groups0 0 c)) = F
      rw [hL, groups0_ord h8] at hF
      clear hD hL
      refine ⟨fun w gr le => SInv c w gr le ∧ huff (specG gr 0 w).length (specG gr 0 w) le = F, fun w gr le => (specG gr 0 w).length, ?_, ?_⟩ <;> dsimp only
      · exact ⟨hS, hF⟩
      rintro w gr le ⟨hI, hf⟩
      have hwl := hI.wlen
      have hw8 := hI.w8
      have hle := hI.ok.o8
      have hg8 := hI.gr8
      have hU := spec_used hI h8
      refine ⟨⟨by omega, allIn_iff.2 fun x hx => by have := hI.wpos x hx; omega⟩, ?_⟩
      rintro n10 rfl
      refine ⟨fun hp => ⟨by omega, ?_⟩, fun hp => ⟨by omega, ?_⟩⟩
      · rintro n11 h11
        obtain ⟨a, g1, g2, g3⟩ := left_some (fun x hx => (hI.wpos x hx).1) hp
        have ea : n11 = (a : Int) := by omega
        subst ea
        simp only [Int.toNat_natCast]
        refine ⟨by omega, by omega, by omega, by omega, by omega, by omega, by simp; omega, ?_⟩
        rintro n12 h12
        refine ⟨fun hb => ⟨by omega, ?_⟩, fun hb => ?_⟩
        · rintro u rfl
          rw [hU, ← hf, spec_end1 hI g1 (by omega)]
          exact ⟨by trivial, rfl⟩
        · obtain ⟨b, eb⟩ : ∃ b : Nat, n12 = b := ⟨n12.toNat, by omega⟩
          subst eb
          have hst := spec_step hI g1 h12.symm _ rfl
          have hl2 : (((w.set a 0).set b 0).length : Int) = w.length := by simp
          simp only [Int.toNat_natCast, hl2]
          obtain ⟨s1, s2, s3, s4, s5, s6, s7, s8, s9⟩ := hst
          have hla : ((w.set a 0).length : Int) = w.length := by simp
          have hla2 : (w.set a 0).length = w.length := by simp
          refine ⟨by omega, by omega, by omega, by omega, by omega, by omega, ⟨by omega, by omega, by omega, s8⟩, ?_⟩
          rintro l14 l15 ⟨rfl, rfl⟩
          refine ⟨⟨by rw [joinG_len]; omega, by rw [joinG_len, joinL_len]; omega, by rw [joinL_len]; omega, s9⟩, ?_⟩
          rintro l16 l17 ⟨rfl, rfl⟩
          refine ⟨by omega, by simp; omega, ⟨s1, by rw [← s2]; exact hf⟩, by omega⟩
      · rintro u rfl
        rw [hU, ← hf, spec_end0 hI hp]
        exact ⟨by trivial, rfl⟩
  · rw [hno (fun h => by rw [← hv] at h; cases h.1)]; simp
end Go.Proofs.Ytkkgpcbkkahieaa
