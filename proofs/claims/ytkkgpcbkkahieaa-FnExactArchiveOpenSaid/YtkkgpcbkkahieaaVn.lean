/-
  The conditions of functions, proved: n_prefix.
-/
import Derived.Test.YtkkgpcbkkahieaaM
set_option linter.unusedVariables false
set_option linter.unusedSimpArgs false
open Go Go.Ax Go.Mx
namespace Go.Proofs.Ytkkgpcbkkahieaa
def V_i_PrefixEncode : Prop :=
  ∀ (l0 l1 : List Int), (l0.length : Int) ≤ 1099511627776 ∧ (l1.length : Int) ≤ 1099511627776 → (l1.length : Int) ≤ 1099511627776 ∧ ∀ (l2 : List Int), l2 = codesD l1 ∧ (l2.length : Int) ≤ 8 → (l0.length : Int) ≤ 1099511627776 ∧ (true = LV l0 →
 ((l2.length : Int) = 0 → false = Option.isSome (encD l0 l1) ∧ [] = Option.getD (encD l0 l1) []) ∧ (¬(l2.length : Int) = 0 → ∃ (I3 : List Int → Int → Prop), ∃ (m4 : List Int → Int → Nat), I3 [] 0 ∧ ∀ (l5 : List Int) (n6 : Int), I3 l5 n6 → (n6
 < (l0.length : Int) → 0 ≤ n6 ∧ n6 < (l0.length : Int) ∧ 0 ≤ List.getD l0 (n6.toNat) 0 ∧ List.getD l0 (n6.toNat) 0 < (l2.length : Int) ∧ Int.toNat (List.getD l0 (n6.toNat) 0) < l2.length ∧ (List.getD l2 (Int.toNat (List.getD l0 (n6.toNat) 0))
 (0 : Int) < 0 → false = Option.isSome (encD l0 l1) ∧ [] = Option.getD (encD l0 l1) []) ∧ (¬List.getD l2 (Int.toNat (List.getD l0 (n6.toNat) 0)) (0 : Int) < 0 → 0 ≤ List.getD l0 (n6.toNat) 0 ∧ List.getD l0 (n6.toNat) 0 < (l2.length : Int) ∧
 Int.toNat (List.getD l0 (n6.toNat) 0) < l2.length ∧ 0 ≤ List.getD l0 (n6.toNat) 0 ∧ List.getD l0 (n6.toNat) 0 < (l1.length : Int) ∧ (∃ (xs : List Int), ∃ (b : Bool), b = (bitsIn l5 && decide (0 ≤ List.getD l1 (Int.toNat (List.getD l0
 (n6.toNat) 0)) 0 ∧ List.getD l1 (Int.toNat (List.getD l0 (n6.toNat) 0)) (0 : Int) ≤ 16) && decide (0 ≤ List.getD l2 (Int.toNat (List.getD l0 (n6.toNat) 0)) 0 ∧ List.getD l2 (Int.toNat (List.getD l0 (n6.toNat) 0)) 0 ≤ p2 (List.getD l1
 (Int.toNat (List.getD l0 (n6.toNat) 0)) 0) - 1) && decide ((l5.length : Int) + List.getD l1 (Int.toNat (List.getD l0 (n6.toNat) 0)) (0 : Int) ≤ 600)) ∧ xs = if b = true then l5 ++ bitsOf (Int.toNat (List.getD l1 (Int.toNat (List.getD l0
 (n6.toNat) 0)) 0)) (List.getD l2 (Int.toNat (List.getD l0 (n6.toNat) 0)) 0) else []) ∧ (l5.length : Int) ≤ 1099511627776 ∧ ∀ (l7 : List Int), ((true = (bitsIn l5 && decide (0 ≤ List.getD l1 (Int.toNat (List.getD l0 (n6.toNat) 0)) 0 ∧
 List.getD l1 (Int.toNat (List.getD l0 (n6.toNat) 0)) (0 : Int) ≤ 16) && decide (0 ≤ List.getD l2 (Int.toNat (List.getD l0 (n6.toNat) 0)) 0 ∧ List.getD l2 (Int.toNat (List.getD l0 (n6.toNat) 0)) 0 ≤ p2 (List.getD l1 (Int.toNat (List.getD l0
 (n6.toNat) 0)) 0) - 1) && decide ((l5.length : Int) + List.getD l1 (Int.toNat (List.getD l0 (n6.toNat) 0)) (0 : Int) ≤ 600)) ∧ l7 = if true = true then l5 ++ bitsOf (Int.toNat (List.getD l1 (Int.toNat (List.getD l0 (n6.toNat) 0)) 0))
 (List.getD l2 (Int.toNat (List.getD l0 (n6.toNat) 0)) 0) else []) → (-9223372036854775808 ≤ n6 + 1 ∧ n6 + (1 : Int) ≤ (9223372036854775807 : Int)) ∧ I3 l7 (n6 + 1) ∧ m4 l7 (n6 + 1) < m4 l5 n6) ∧ ((false = (bitsIn l5 && decide (0 ≤ List.getD
 l1 (Int.toNat (List.getD l0 (n6.toNat) 0)) 0 ∧ List.getD l1 (Int.toNat (List.getD l0 (n6.toNat) 0)) (0 : Int) ≤ 16) && decide (0 ≤ List.getD l2 (Int.toNat (List.getD l0 (n6.toNat) 0)) 0 ∧ List.getD l2 (Int.toNat (List.getD l0 (n6.toNat) 0))
 0 ≤ p2 (List.getD l1 (Int.toNat (List.getD l0 (n6.toNat) 0)) 0) - 1) && decide ((l5.length : Int) + List.getD l1 (Int.toNat (List.getD l0 (n6.toNat) 0)) (0 : Int) ≤ 600)) ∧ l7 = if false = true then l5 ++ bitsOf (Int.toNat (List.getD l1
 (Int.toNat (List.getD l0 (n6.toNat) 0)) 0)) (List.getD l2 (Int.toNat (List.getD l0 (n6.toNat) 0)) 0) else []) → false = Option.isSome (encD l0 l1) ∧ [] = Option.getD (encD l0 l1) []))) ∧ (¬n6 < (l0.length : Int) → true = Option.isSome (encD
 l0 l1) ∧ l5 = Option.getD (encD l0 l1) []))) ∧ (false = LV l0 → false = Option.isSome (encD l0 l1) ∧ [] = Option.getD (encD l0 l1) [])
theorem v_i_PrefixEncode : V_i_PrefixEncode := by
  unfold V_i_PrefixEncode
  rintro l ls ⟨hz, hz'⟩
  refine ⟨hz', ?_⟩
  rintro cs ⟨rfl, hcl⟩
  refine ⟨hz, fun hv => ?_, fun hv => ?_⟩
  · replace hv := hv.symm
    refine ⟨fun h0 => ?_, fun h0 => ?_⟩
    · have : ¬ lensOk ls = true := fun h => by have := codesD_len h; omega
      have : encD l ls = none := if_neg (fun q => this (by simp only [Bool.and_eq_true] at q; exact q.1.2))
      rw [this]; simp
    have h : lensOk ls = true := by
      by_cases q : lensOk ls = true
      · exact q
      · have : codesD ls = [] := if_neg q
        rw [this] at h0; simp at h0
    have hl := LV_len hv
    have h8 : ls.length = 8 := by
      have := h
      simp only [lensOk, Bool.and_eq_true] at this
      exact (lensIn_iff.1 this.1).1
    have hc8 := codesD_len h
    have hD : encOk ls l = true → encD l ls = some (enc ls l) := fun q => if_pos (by rw [hv, h, q]; rfl)
    have hN : encOk ls l = false → encD l ls = none := fun q => if_neg (by rw [q]; simp)
    have hin : ∀ (i : Int), ∀ s ∈ l.take i.toNat, 0 ≤ s ∧ s ≤ 7 := fun i s hs => LV_in hv s (List.mem_of_mem_take hs)
    refine ⟨fun o i => 0 ≤ i ∧ i ≤ l.length ∧ encOk ls (l.take i.toNat) = true ∧ o = enc ls (l.take i.toNat), fun o i => (l.length - i).toNat, ?_, ?_⟩ <;> dsimp only
    · exact ⟨by omega, by omega, rfl, rfl⟩
    rintro o i ⟨i0, i1, hk, rfl⟩
    refine ⟨fun hlt => ?_, fun hge => ?_⟩
    · have hs := LV_at hv i0 hlt
      have hneg := code_neg h hs.1 hs.2
      have hst := enc_step (ls := ls) i0 hlt
      have hok := encOk_step (ls := ls) i0 hlt
      have hno := encOk_no (ls := ls) (l := l) i0 hlt
      obtain ⟨b1, b2⟩ := enc_bd h (hin i) hk
      have hg := codesD_get h hs.1 hs.2
      have hcode := code_ok h (s := (l.getD i.toNat 0).toNat) (by omega)
      have htl : ((l.take i.toNat).length : Int) = i := len_take i0 i1
      rw [hg] at hneg ⊢
      generalize l.getD i.toNat 0 = s at *
      refine ⟨i0, hlt, hs.1, by omega, by omega, fun hc => ?_, fun hc => ⟨hs.1, by omega, by omega, hs.1, by omega, ⟨_, _, rfl, rfl⟩, by omega, ?_⟩⟩
      · rw [hN (hno (hneg.1 hc))]; simp
      · have hp : 0 < ls.getD s.toNat 0 := by
          by_cases q : 0 < ls.getD s.toNat 0
          · exact q
          · exact absurd (hneg.2 q) hc
        obtain ⟨c1, c2, c3, c4⟩ := hcode hp
        have hb : bitsIn (enc ls (l.take i.toNat)) = true := by simp only [bitsIn, Bool.and_eq_true, decide_eq_true_eq]; exact ⟨by omega, b2⟩
        rw [hb, decide_eq_true (show 0 ≤ ls.getD s.toNat 0 ∧ ls.getD s.toNat 0 ≤ 16 by omega), decide_eq_true (show 0 ≤ code ls s.toNat ∧ code ls s.toNat ≤ p2 (ls.getD s.toNat 0) - 1 from ⟨c1, c3⟩), decide_eq_true (show ((enc ls (l.take i.toNat)).length : Int) + ls.getD s.toNat 0 ≤ 600 by omega)]
        intro x
        refine ⟨?_, fun q => by simp at q⟩
        rintro ⟨_, rfl⟩
        rw [if_pos rfl, ← hst]
        refine ⟨by omega, ⟨by omega, by omega, ?_, rfl⟩, by omega⟩
        rw [hok, hk, decide_eq_true hp]; rfl
    · rw [take_ge hge] at hk ⊢
      rw [hD hk]; exact ⟨by trivial, rfl⟩
  · have : encD l ls = none := if_neg (by rw [← hv]; simp)
    rw [this]; simp
def V_s_PrefixEncode : Prop :=
  ∀ (l0 l1 : List Int), (l0.length : Int) ≤ 1099511627776 ∧ (l1.length : Int) ≤ 1099511627776 → (l0.length : Int) ≤ 1099511627776 ∧ (true = LV l0 → (l1.length : Int) ≤ 1099511627776 ∧ (true = lensOk l1 → (l1.length : Int) ≤ 1099511627776 ∧ ∀
 (l2 : List Int), l2 = codesD l1 ∧ (l2.length : Int) ≤ 8 → ∃ (I3 : List Int → Int → Prop), ∃ (m4 : List Int → Int → Nat), I3 [] 0 ∧ ∀ (l5 : List Int) (n6 : Int), I3 l5 n6 → (n6 < (l0.length : Int) → 0 ≤ n6 ∧ n6 < (l0.length : Int) ∧ 0 ≤
 List.getD l0 (n6.toNat) 0 ∧ List.getD l0 (n6.toNat) 0 < (l2.length : Int) ∧ Int.toNat (List.getD l0 (n6.toNat) 0) < l2.length ∧ (List.getD l2 (Int.toNat (List.getD l0 (n6.toNat) 0)) (0 : Int) < 0 → false = Option.isSome (encD l0 l1) ∧ [] =
 Option.getD (encD l0 l1) []) ∧ (¬List.getD l2 (Int.toNat (List.getD l0 (n6.toNat) 0)) (0 : Int) < 0 → 0 ≤ n6 ∧ n6 < (l0.length : Int) ∧ 0 ≤ List.getD l0 (n6.toNat) 0 ∧ List.getD l0 (n6.toNat) 0 < (l2.length : Int) ∧ Int.toNat (List.getD l0
 (n6.toNat) 0) < l2.length ∧ 0 ≤ n6 ∧ n6 < (l0.length : Int) ∧ 0 ≤ List.getD l0 (n6.toNat) 0 ∧ List.getD l0 (n6.toNat) 0 < (l1.length : Int) ∧ (∃ (xs : List Int), xs = bitsOf (Int.toNat (List.getD l1 (Int.toNat (List.getD l0 (n6.toNat) 0))
 0)) (List.getD l2 (Int.toNat (List.getD l0 (n6.toNat) 0)) 0)) ∧ (0 ≤ List.getD l2 (Int.toNat (List.getD l0 (n6.toNat) 0)) 0 ∧ List.getD l2 (Int.toNat (List.getD l0 (n6.toNat) 0)) (0 : Int) ≤ 100000000 ∧ 0 ≤ List.getD l1 (Int.toNat (List.getD
 l0 (n6.toNat) 0)) 0 ∧ List.getD l1 (Int.toNat (List.getD l0 (n6.toNat) 0)) (0 : Int) ≤ 16) ∧ ∀ (l7 : List Int), l7 = bitsOf (Int.toNat (List.getD l1 (Int.toNat (List.getD l0 (n6.toNat) 0)) 0)) (List.getD l2 (Int.toNat (List.getD l0
 (n6.toNat) 0)) 0) → (↑(l5.length + l7.length) : Int) ≤ 1099511627776 ∧ (-9223372036854775808 ≤ n6 + 1 ∧ n6 + (1 : Int) ≤ (9223372036854775807 : Int)) ∧ I3 (l5 ++ l7) (n6 + 1) ∧ m4 (l5 ++ l7) (n6 + 1) < m4 l5 n6)) ∧ (¬n6 < (l0.length : Int) →
 (600 < (l5.length : Int) → false = Option.isSome (encD l0 l1) ∧ [] = Option.getD (encD l0 l1) []) ∧ (¬600 < (l5.length : Int) → true = Option.isSome (encD l0 l1) ∧ l5 = Option.getD (encD l0 l1) []))) ∧ (false = lensOk l1 → false =
 Option.isSome (encD l0 l1) ∧ [] = Option.getD (encD l0 l1) [])) ∧ (false = LV l0 → false = Option.isSome (encD l0 l1) ∧ [] = Option.getD (encD l0 l1) [])
theorem v_s_PrefixEncode : V_s_PrefixEncode := by
  unfold V_s_PrefixEncode
  rintro l ls ⟨hz, hz'⟩
  refine ⟨hz, fun hv => ⟨hz', fun h => ⟨hz', ?_⟩, fun h => ?_⟩, fun hv => ?_⟩
  · rintro cs ⟨rfl, hcl⟩
    replace hv := hv.symm
    replace h := h.symm
    have hl := LV_len hv
    have h8 : ls.length = 8 := by
      have := h
      simp only [lensOk, Bool.and_eq_true] at this
      exact (lensIn_iff.1 this.1).1
    have hc8 := codesD_len h
    have hD : encOk ls l = true → encD l ls = some (enc ls l) := fun q => if_pos (by rw [hv, h, q]; rfl)
    have hN : encOk ls l = false → encD l ls = none := fun q => if_neg (by rw [q]; simp)
    have hin : ∀ (i : Int), ∀ s ∈ l.take i.toNat, 0 ≤ s ∧ s ≤ 7 := fun i s hs => LV_in hv s (List.mem_of_mem_take hs)
    refine ⟨fun o i => 0 ≤ i ∧ i ≤ l.length ∧ encOk ls (l.take i.toNat) = true ∧ o = enc ls (l.take i.toNat), fun o i => (l.length - i).toNat, ?_, ?_⟩ <;> dsimp only
    · exact ⟨by omega, by omega, rfl, rfl⟩
    rintro o i ⟨i0, i1, hk, rfl⟩
    obtain ⟨b1, b2⟩ := enc_bd h (hin i) hk
    have htl : ((l.take i.toNat).length : Int) = i := len_take i0 i1
    refine ⟨fun hlt => ?_, fun hge => ?_⟩
    · have hs := LV_at hv i0 hlt
      have hneg := code_neg h hs.1 hs.2
      have hst := enc_step (ls := ls) i0 hlt
      have hok := encOk_step (ls := ls) i0 hlt
      have hno := encOk_no (ls := ls) (l := l) i0 hlt
      have hg := codesD_get h hs.1 hs.2
      have hcode := code_ok h (s := (l.getD i.toNat 0).toNat) (by omega)
      rw [hg] at hneg ⊢
      generalize l.getD i.toNat 0 = s at *
      refine ⟨i0, hlt, hs.1, by omega, by omega, fun hc => ?_, fun hc => ?_⟩
      · rw [hN (hno (hneg.1 hc))]; simp
      · have hp : 0 < ls.getD s.toNat 0 := by
          by_cases q : 0 < ls.getD s.toNat 0
          · exact q
          · exact absurd (hneg.2 q) hc
        obtain ⟨c1, c2, c3, c4⟩ := hcode hp
        have hp2 : p2 (ls.getD s.toNat 0) ≤ 256 := by
          have e : p2 (ls.getD s.toNat 0) * p2 (8 - ls.getD s.toNat 0) = 256 := by
            rw [← p2_add (by omega) (by omega), show ls.getD s.toNat 0 + (8 - ls.getD s.toNat 0) = 8 by omega]; rfl
          have q1 := p2_pos (8 - ls.getD s.toNat 0)
          have : p2 (ls.getD s.toNat 0) * 1 ≤ p2 (ls.getD s.toNat 0) * p2 (8 - ls.getD s.toNat 0) := Int.mul_le_mul_of_nonneg_left (by omega) (by have := p2_pos (ls.getD s.toNat 0); omega)
          omega
        refine ⟨i0, hlt, hs.1, by omega, by omega, i0, hlt, hs.1, by omega, ⟨_, rfl⟩, ⟨c1, by omega, by omega, by omega⟩, ?_⟩
        rintro x rfl
        rw [← hst]
        refine ⟨by rw [bitsOf_len]; omega, by omega, ⟨by omega, by omega, ?_, rfl⟩, by omega⟩
        rw [hok, hk, decide_eq_true hp]; rfl
    · refine ⟨fun h6 => by omega, fun _ => ?_⟩
      rw [take_ge hge] at hk ⊢
      rw [hD hk]; exact ⟨by trivial, rfl⟩
  · have : encD l ls = none := if_neg (by rw [← h]; simp)
    rw [this]; simp
  · have : encD l ls = none := if_neg (by rw [← hv]; simp)
    rw [this]; simp
def V_i_BitsGet : Prop :=
  ∀ (l0 : List Int) (n1 n2 : Int), (l0.length : Int) ≤ 1099511627776 → (l0.length : Int) ≤ 1099511627776 ∧ (true = bitsIn l0 → True ∧ (true = decide (0 ≤ n2 ∧ n2 ≤ 16) → True ∧ (true = decide (0 ≤ n1 ∧ n1 ≤ (l0.length : Int)) →
 (-9223372036854775808 ≤ (l0.length : Int) - n1 ∧ (l0.length : Int) - n1 ≤ (9223372036854775807 : Int)) ∧ ((l0.length : Int) - n1 < n2 → false = (bitsIn l0 && decide (0 ≤ n2 ∧ n2 ≤ 16) && decide (0 ≤ n1 ∧ n1 ≤ (l0.length : Int)) && decide (n2
 ≤ (l0.length : Int) - n1)) ∧ 0 = if false = true then numOf (List.take (n2.toNat) (List.drop (n1.toNat) l0)) else 0) ∧ (¬(l0.length : Int) - n1 < n2 → (-9223372036854775808 ≤ n1 + n2 ∧ n1 + n2 ≤ (9223372036854775807 : Int)) ∧ 0 ≤ n1 ∧ n1 ≤
 n1 + n2 ∧ n1 + n2 ≤ (l0.length : Int) ∧ ∃ (I3 : Int → Int → Prop), ∃ (m4 : Int → Int → Nat), I3 0 0 ∧ ∀ (n5 n6 : Int), I3 n5 n6 → (n6 < (↑(List.length (List.drop (n1.toNat) (List.take (Int.toNat (n1 + n2)) l0))) : Int) → 0 ≤ n6 ∧ n6 <
 (↑(List.length (List.drop (n1.toNat) (List.take (Int.toNat (n1 + n2)) l0))) : Int) ∧ (0 : Int) ≤ 1 ∧ (1 : Int) < 63 ∧ (-9223372036854775808 ≤ n5 * 2 ^ Int.toNat 1 ∧ n5 * 2 ^ Int.toNat (1 : Int) ≤ (9223372036854775807 : Int)) ∧
 (-9223372036854775808 ≤ n6 + 1 ∧ n6 + (1 : Int) ≤ (9223372036854775807 : Int)) ∧ I3 (bitI BinOp.or (n5 * 2 ^ Int.toNat 1) (List.getD (List.drop (n1.toNat) (List.take (Int.toNat (n1 + n2)) l0)) (n6.toNat) 0)) (n6 + 1) ∧ m4 (bitI BinOp.or (n5
 * 2 ^ Int.toNat 1) (List.getD (List.drop (n1.toNat) (List.take (Int.toNat (n1 + n2)) l0)) (n6.toNat) 0)) (n6 + 1) < m4 n5 n6) ∧ (¬n6 < (↑(List.length (List.drop (n1.toNat) (List.take (Int.toNat (n1 + n2)) l0))) : Int) → true = (bitsIn l0 &&
 decide (0 ≤ n2 ∧ n2 ≤ 16) && decide (0 ≤ n1 ∧ n1 ≤ (l0.length : Int)) && decide (n2 ≤ (l0.length : Int) - n1)) ∧ n5 = if true = true then numOf (List.take (n2.toNat) (List.drop (n1.toNat) l0)) else 0))) ∧ (false = decide (0 ≤ n1 ∧ n1 ≤
 (l0.length : Int)) → false = (bitsIn l0 && decide (0 ≤ n2 ∧ n2 ≤ 16) && decide (0 ≤ n1 ∧ n1 ≤ (l0.length : Int)) && decide (n2 ≤ (l0.length : Int) - n1)) ∧ 0 = if false = true then numOf (List.take (n2.toNat) (List.drop (n1.toNat) l0)) else
 0)) ∧ (false = decide (0 ≤ n2 ∧ n2 ≤ 16) → false = (bitsIn l0 && decide (0 ≤ n2 ∧ n2 ≤ 16) && decide (0 ≤ n1 ∧ n1 ≤ (l0.length : Int)) && decide (n2 ≤ (l0.length : Int) - n1)) ∧ 0 = if false = true then numOf (List.take (n2.toNat) (List.drop
 (n1.toNat) l0)) else 0)) ∧ (false = bitsIn l0 → false = (bitsIn l0 && decide (0 ≤ n2 ∧ n2 ≤ 16) && decide (0 ≤ n1 ∧ n1 ≤ (l0.length : Int)) && decide (n2 ≤ (l0.length : Int) - n1)) ∧ 0 = if false = true then numOf (List.take (n2.toNat)
 (List.drop (n1.toNat) l0)) else 0)
theorem v_i_BitsGet : V_i_BitsGet := by
  unfold V_i_BitsGet
  intro l a w hz
  refine ⟨hz, fun hb => ⟨trivial, fun hw => ⟨trivial, fun ha => ?_, fun ha => ?_⟩, fun hw => ?_⟩, fun hb => ?_⟩
  · have hw' := hw
    have ha' := ha
    have hb' := hb.symm
    simp only [true_eq_decide_iff] at hw' ha'
    simp only [bitsIn, Bool.and_eq_true, decide_eq_true_eq] at hb'
    refine ⟨by omega, fun hlt => ?_, fun hge => ⟨by omega, ha'.1, by omega, by omega, ?_⟩⟩
    · have : decide (w ≤ (l.length : Int) - a) = false := decide_eq_false (by omega)
      rw [this]; simp
    · have hd : decide (w ≤ (l.length : Int) - a) = true := decide_eq_true (by omega)
      rw [← hb, ← hw, ← ha, hd, take_drop_cut ha'.1 hw'.1]
      have hX : ((List.take w.toNat (l.drop a.toNat)).length : Int) = w := by simp; omega
      have hin : allIn 0 1 (List.take w.toNat (l.drop a.toNat)) = true := allIn_take _ (allIn_drop _ hb'.2)
      generalize List.take w.toNat (l.drop a.toNat) = X at *
      rw [hX]
      refine ⟨fun n i => 0 ≤ i ∧ i ≤ w ∧ n = numOf (X.take i.toNat), fun n i => (w - i).toNat, ?_, ?_⟩ <;> dsimp only
      · exact ⟨by omega, by omega, by simp [numOf]⟩
      rintro n i ⟨i0, i1, rfl⟩
      refine ⟨fun hi => ?_, fun hi => ⟨by simp, by rw [if_pos rfl, take_ge (by omega)]⟩⟩
      have hx := allIn_iff.1 hin _ (at_mem i0 (by omega : i < (X.length : Int)))
      have hn := numOf_bd (allIn_take i.toNat hin)
      have hp : (2 : Int) ^ (X.take i.toNat).length ≤ 65536 := by
        have h16 : (X.take i.toNat).length ≤ 16 := by simp; omega
        have : (2 : Nat) ^ (X.take i.toNat).length ≤ 2 ^ 16 := Nat.pow_le_pow_right (by omega) h16
        have e : ((2 ^ (X.take i.toNat).length : Nat) : Int) = 2 ^ (X.take i.toNat).length := by simp
        omega
      have e2 : (2 : Int) ^ Int.toNat 1 = 2 := rfl
      rw [e2, bitI_or_apart (i := 1) (by omega) hx.1 (by omega) (by omega) (by omega) (by omega)]
      refine ⟨i0, hi, by omega, by omega, by omega, by omega, ⟨by omega, by omega, ?_⟩, by omega⟩
      rw [take_lt 0 i0 (by omega), numOf_snoc]; omega
  · rw [← ha]; simp
  · rw [← hw]; simp
  · rw [← hb]; simp
def V_i_symbolAt : Prop :=
  ∀ (l0 : List Int) (n1 : Int) (l2 l3 : List Int), bitsIn l0 = true ∧ lensOk l2 = true ∧ l3 = codesD l2 ∧ 0 ≤ n1 ∧ n1 ≤ (l0.length : Int) → ∃ (I4 : Int → Prop), ∃ (m5 : Int → Nat), I4 0 ∧ ∀ (n6 : Int), I4 n6 → (n6 < (l3.length : Int) → 0 ≤ n6
 ∧ n6 < (l3.length : Int) ∧ 0 ≤ n6 ∧ n6 < (l2.length : Int) ∧ (l0.length : Int) ≤ 1099511627776 ∧ ∀ (n7 : Int), ((true = (bitsIn l0 && decide (0 ≤ List.getD l2 (n6.toNat) 0 ∧ List.getD l2 (n6.toNat) (0 : Int) ≤ 16) && decide (0 ≤ n1 ∧ n1 ≤
 (l0.length : Int)) && decide (List.getD l2 (n6.toNat) 0 ≤ (l0.length : Int) - n1)) ∧ n7 = if true = true then numOf (List.take (Int.toNat (List.getD l2 (n6.toNat) 0)) (List.drop (n1.toNat) l0)) else 0) → (0 ≤ List.getD l3 (n6.toNat) 0 → (n7
 = List.getD l3 (n6.toNat) 0 → n6 = symAt l2 l0 n1) ∧ (¬n7 = List.getD l3 (n6.toNat) 0 → (-9223372036854775808 ≤ n6 + 1 ∧ n6 + (1 : Int) ≤ (9223372036854775807 : Int)) ∧ I4 (n6 + 1) ∧ m5 (n6 + 1) < m5 n6)) ∧ (¬0 ≤ List.getD l3 (n6.toNat) 0 →
 (-9223372036854775808 ≤ n6 + 1 ∧ n6 + (1 : Int) ≤ (9223372036854775807 : Int)) ∧ I4 (n6 + 1) ∧ m5 (n6 + 1) < m5 n6)) ∧ ((false = (bitsIn l0 && decide (0 ≤ List.getD l2 (n6.toNat) 0 ∧ List.getD l2 (n6.toNat) (0 : Int) ≤ 16) && decide (0 ≤ n1
 ∧ n1 ≤ (l0.length : Int)) && decide (List.getD l2 (n6.toNat) 0 ≤ (l0.length : Int) - n1)) ∧ n7 = if false = true then numOf (List.take (Int.toNat (List.getD l2 (n6.toNat) 0)) (List.drop (n1.toNat) l0)) else 0) → (0 ≤ List.getD l3 (n6.toNat)
 0 → (-9223372036854775808 ≤ n6 + 1 ∧ n6 + (1 : Int) ≤ (9223372036854775807 : Int)) ∧ I4 (n6 + 1) ∧ m5 (n6 + 1) < m5 n6) ∧ (¬0 ≤ List.getD l3 (n6.toNat) 0 → (-9223372036854775808 ≤ n6 + 1 ∧ n6 + (1 : Int) ≤ (9223372036854775807 : Int)) ∧ I4
 (n6 + 1) ∧ m5 (n6 + 1) < m5 n6))) ∧ (¬n6 < (l3.length : Int) → -1 = symAt l2 l0 n1)
theorem v_i_symbolAt : V_i_symbolAt := by
  unfold V_i_symbolAt
  rintro bs a ls cs ⟨hb, h, rfl, h0, h1⟩
  have hc8 := codesD_len h
  have hb' := hb
  simp only [bitsIn, Bool.and_eq_true, decide_eq_true_eq] at hb'
  have hls := h
  simp only [lensOk, Bool.and_eq_true] at hls
  have hls := lensIn_iff.1 hls.1
  refine ⟨fun i => 0 ≤ i ∧ i ≤ 8 ∧ symFrom ls bs a (8 - i).toNat i = symAt ls bs a, fun i => (8 - i).toNat, ?_, ?_⟩ <;> dsimp only
  · exact ⟨by omega, by omega, rfl⟩
  rintro i ⟨i0, i1, hI⟩
  refine ⟨fun hlt => ?_, fun hge => ?_⟩
  · have hi8 : i < 8 := by omega
    have hx := hls.2 _ (at_mem i0 (by omega : i < (ls.length : Int)))
    have hneg := code_neg h i0 (by omega)
    rw [show (8 - i).toNat = (8 - (i + 1)).toNat + 1 by omega, symFrom] at hI
    have hh := hits_iff (ls := ls) (bits := bs) (at_ := a) (s := i.toNat)
    rw [← codesD_get h i0 (by omega)] at hh
    have next : ¬ hits ls bs a i.toNat = true → (-9223372036854775808 ≤ i + 1 ∧ i + 1 ≤ 9223372036854775807) ∧ (0 ≤ i + 1 ∧ i + 1 ≤ 8 ∧ symFrom ls bs a (8 - (i + 1)).toNat (i + 1) = symAt ls bs a) ∧ (8 - (i + 1)).toNat < (8 - i).toNat := fun q => by
      rw [if_neg q] at hI; exact ⟨by omega, ⟨by omega, by omega, hI⟩, by omega⟩
    simp only [hh] at hI next
    refine ⟨i0, by omega, i0, by omega, by omega, fun n => ⟨?_, ?_⟩⟩
    · rintro ⟨hc, rfl⟩
      have hc' := hc.symm
      simp only [Bool.and_eq_true, decide_eq_true_eq] at hc'
      rw [if_pos rfl]
      exact ⟨fun p0 => ⟨fun he => by rw [if_pos ⟨by omega, by omega, he⟩] at hI; exact hI, fun he => next (fun q => he q.2.2)⟩, fun p0 => next (fun q => by omega)⟩
    · rintro ⟨hc, rfl⟩
      have hl : ¬ ls.getD i.toNat 0 ≤ (bs.length : Int) - a := fun q => by
        rw [hb, decide_eq_true (show 0 ≤ ls.getD i.toNat 0 ∧ ls.getD i.toNat 0 ≤ 16 by omega), decide_eq_true (show 0 ≤ a ∧ a ≤ (bs.length : Int) from ⟨h0, h1⟩), decide_eq_true q] at hc
        cases hc
      exact ⟨fun p0 => next (fun q => by omega), fun p0 => next (fun q => by omega)⟩
  · rw [show (8 - i).toNat = 0 by omega] at hI
    exact hI
def V_i_PrefixDecode : Prop :=
  ∀ (l0 l1 : List Int) (n2 : Int), (l0.length : Int) ≤ 1099511627776 ∧ (l1.length : Int) ≤ 1099511627776 → (l1.length : Int) ≤ 1099511627776 ∧ ∀ (l3 : List Int), l3 = codesD l1 ∧ (l3.length : Int) ≤ 8 → (l0.length : Int) ≤ 1099511627776 ∧
 (true = bitsIn l0 → ((l3.length : Int) = 0 → false = Option.isSome (decD l0 l1 n2) ∧ ([], 0) = Option.getD (decD l0 l1 n2) ([], 0)) ∧ (¬(l3.length : Int) = 0 → True ∧ (true = decide (0 ≤ n2 ∧ n2 ≤ 40) → ∃ (I4 : List Int → Int → Int → Prop),
 ∃ (m5 : List Int → Int → Int → Nat), I4 [] 0 0 ∧ ∀ (l6 : List Int) (n7 n8 : Int), I4 l6 n7 n8 → (n8 < n2 → (bitsIn l0 = true ∧ lensOk l1 = true ∧ l3 = codesD l1 ∧ 0 ≤ n7 ∧ n7 ≤ (l0.length : Int)) ∧ ∀ (n9 : Int), n9 = symAt l1 l0 n7 → (n9 < 0
 → false = Option.isSome (decD l0 l1 n2) ∧ ([], 0) = Option.getD (decD l0 l1 n2) ([], 0)) ∧ (¬n9 < 0 → (↑(l6.length + List.length [n9]) : Int) ≤ 1099511627776 ∧ 0 ≤ n9 ∧ n9 < (l1.length : Int) ∧ (-9223372036854775808 ≤ n7 + List.getD l1
 (n9.toNat) 0 ∧ n7 + List.getD l1 (n9.toNat) (0 : Int) ≤ (9223372036854775807 : Int)) ∧ (-9223372036854775808 ≤ n8 + 1 ∧ n8 + (1 : Int) ≤ (9223372036854775807 : Int)) ∧ I4 (l6 ++ [n9]) (n7 + List.getD l1 (n9.toNat) 0) (n8 + 1) ∧ m5 (l6 ++
 [n9]) (n7 + List.getD l1 (n9.toNat) 0) (n8 + 1) < m5 l6 n7 n8)) ∧ (¬n8 < n2 → true = Option.isSome (decD l0 l1 n2) ∧ (l6, n7) = Option.getD (decD l0 l1 n2) ([], 0))) ∧ (false = decide (0 ≤ n2 ∧ n2 ≤ 40) → false = Option.isSome (decD l0 l1
 n2) ∧ ([], 0) = Option.getD (decD l0 l1 n2) ([], 0)))) ∧ (false = bitsIn l0 → false = Option.isSome (decD l0 l1 n2) ∧ ([], 0) = Option.getD (decD l0 l1 n2) ([], 0))
theorem v_i_PrefixDecode : V_i_PrefixDecode := by
  unfold V_i_PrefixDecode
  rintro bs ls m ⟨hz, hz'⟩
  refine ⟨hz', ?_⟩
  rintro cs ⟨rfl, hcl⟩
  refine ⟨hz, fun hb => ⟨fun h0 => ?_, fun h0 => ⟨trivial, fun hm => ?_, fun hm => ?_⟩⟩, fun hb => ?_⟩
  · have : ¬ lensOk ls = true := fun h => by have := codesD_len h; omega
    have : decD bs ls m = none := if_neg (fun q => this (by simp only [Bool.and_eq_true] at q; exact q.1.2))
    rw [this]; simp
  · have h : lensOk ls = true := by
      by_cases q : lensOk ls = true
      · exact q
      · have : codesD ls = [] := if_neg q
        rw [this] at h0; simp at h0
    have hm' := hm
    simp only [true_eq_decide_iff] at hm'
    have hD : decD bs ls m = decN ls bs m.toNat 0 := if_pos (by rw [← hb, h, ← hm]; rfl)
    have hls := h
    simp only [lensOk, Bool.and_eq_true] at hls
    have hls := lensIn_iff.1 hls.1
    have hb' := hb.symm
    simp only [bitsIn, Bool.and_eq_true, decide_eq_true_eq] at hb'
    rw [hD]
    refine ⟨fun o a i => 0 ≤ i ∧ i ≤ m ∧ 0 ≤ a ∧ a ≤ bs.length ∧ (o.length : Int) = i ∧ decN ls bs m.toNat 0 = (decN ls bs (m - i).toNat a).map (fun r => (o ++ r.1, r.2)), fun o a i => (m - i).toNat, ?_, ?_⟩ <;> dsimp only
    · refine ⟨by omega, by omega, by omega, by omega, by simp, ?_⟩
      rw [show m - 0 = m by omega]; simp
    rintro o a i ⟨i0, i1, a0, a1, ol, hI⟩
    refine ⟨fun hlt => ⟨⟨hb.symm, h, rfl, a0, a1⟩, ?_⟩, fun hge => ?_⟩
    · rw [show (m - i).toNat = (m - (i + 1)).toNat + 1 by omega, decN] at hI
      rintro s rfl
      refine ⟨fun hs => ?_, fun hs => ?_⟩
      · rw [if_pos hs] at hI; rw [hI]; simp
      · rw [if_neg hs] at hI
        rcases symAt_cases ls bs a with ⟨q1, _⟩ | ⟨q1, q2, q3⟩
        · omega
        · obtain ⟨p1, p2, p3⟩ := hits_iff.1 q3
          have hx := hls.2 _ (at_mem q1 (by omega : symAt ls bs a < (ls.length : Int)))
          refine ⟨by simp; omega, q1, by omega, by omega, by omega, ⟨by omega, by omega, by omega, by omega, by simp; omega, ?_⟩, by omega⟩
          rw [hI, Option.map_map]
          congr 1
          funext r
          simp
    · rw [show (m - i).toNat = 0 by omega, decN] at hI
      rw [hI]; simp
  · have : decD bs ls m = none := if_neg (by rw [← hm]; simp)
    rw [this]; simp
  · have : decD bs ls m = none := if_neg (by rw [← hb]; simp)
    rw [this]; simp
def V_s_l12Symbol : Prop :=
  ∀ (l0 : List Int) (n1 : Int) (l2 l3 : List Int), bitsIn l0 = true ∧ lensOk l2 = true ∧ l3 = codesD l2 ∧ 0 ≤ n1 ∧ n1 ≤ (l0.length : Int) → ∃ (I4 : Int → Prop), ∃ (m5 : Int → Nat), I4 0 ∧ ∀ (n6 : Int), I4 n6 → (n6 < (l3.length : Int) → 0 ≤ n6
 ∧ n6 < (l3.length : Int) ∧ (0 ≤ List.getD l3 (n6.toNat) 0 → 0 ≤ n6 ∧ n6 < (l2.length : Int) ∧ (-9223372036854775808 ≤ n1 + List.getD l2 (n6.toNat) 0 ∧ n1 + List.getD l2 (n6.toNat) (0 : Int) ≤ (9223372036854775807 : Int)) ∧ (n1 + List.getD l2
 (n6.toNat) 0 ≤ (l0.length : Int) → 0 ≤ n6 ∧ n6 < (l2.length : Int) ∧ (-9223372036854775808 ≤ n1 + List.getD l2 (n6.toNat) 0 ∧ n1 + List.getD l2 (n6.toNat) (0 : Int) ≤ (9223372036854775807 : Int)) ∧ 0 ≤ n1 ∧ n1 ≤ n1 + List.getD l2 (n6.toNat)
 0 ∧ n1 + List.getD l2 (n6.toNat) 0 ≤ (l0.length : Int) ∧ (∃ (n : Int), n = numOf (List.drop (n1.toNat) (List.take (Int.toNat (n1 + List.getD l2 (n6.toNat) 0)) l0))) ∧ ((↑(List.length (List.drop (n1.toNat) (List.take (Int.toNat (n1 +
 List.getD l2 (n6.toNat) 0)) l0))) : Int) ≤ 16 ∧ allIn 0 1 (List.drop (n1.toNat) (List.take (Int.toNat (n1 + List.getD l2 (n6.toNat) 0)) l0)) = true) ∧ ∀ (n7 : Int), n7 = numOf (List.drop (n1.toNat) (List.take (Int.toNat (n1 + List.getD l2
 (n6.toNat) 0)) l0)) → 0 ≤ n6 ∧ n6 < (l3.length : Int) ∧ (n7 = List.getD l3 (n6.toNat) 0 → n6 = symAt l2 l0 n1) ∧ (¬n7 = List.getD l3 (n6.toNat) 0 → (-9223372036854775808 ≤ n6 + 1 ∧ n6 + (1 : Int) ≤ (9223372036854775807 : Int)) ∧ I4 (n6 + 1)
 ∧ m5 (n6 + 1) < m5 n6)) ∧ (¬n1 + List.getD l2 (n6.toNat) 0 ≤ (l0.length : Int) → (-9223372036854775808 ≤ n6 + 1 ∧ n6 + (1 : Int) ≤ (9223372036854775807 : Int)) ∧ I4 (n6 + 1) ∧ m5 (n6 + 1) < m5 n6)) ∧ (¬0 ≤ List.getD l3 (n6.toNat) 0 →
 (-9223372036854775808 ≤ n6 + 1 ∧ n6 + (1 : Int) ≤ (9223372036854775807 : Int)) ∧ I4 (n6 + 1) ∧ m5 (n6 + 1) < m5 n6)) ∧ (¬n6 < (l3.length : Int) → -1 = symAt l2 l0 n1)
theorem v_s_l12Symbol : V_s_l12Symbol := by
  unfold V_s_l12Symbol
  rintro bs a ls cs ⟨hb, h, rfl, h0, h1⟩
  have hc8 := codesD_len h
  have hb' := hb
  simp only [bitsIn, Bool.and_eq_true, decide_eq_true_eq] at hb'
  have hls := h
  simp only [lensOk, Bool.and_eq_true] at hls
  have hls := lensIn_iff.1 hls.1
  refine ⟨fun i => 0 ≤ i ∧ i ≤ 8 ∧ symFrom ls bs a (8 - i).toNat i = symAt ls bs a, fun i => (8 - i).toNat, ?_, ?_⟩ <;> dsimp only
  · exact ⟨by omega, by omega, rfl⟩
  rintro i ⟨i0, i1, hI⟩
  refine ⟨fun hlt => ?_, fun hge => ?_⟩
  · have hi8 : i < 8 := by omega
    have hx := hls.2 _ (at_mem i0 (by omega : i < (ls.length : Int)))
    have hneg := code_neg h i0 (by omega)
    rw [show (8 - i).toNat = (8 - (i + 1)).toNat + 1 by omega, symFrom] at hI
    have hh := hits_iff (ls := ls) (bits := bs) (at_ := a) (s := i.toNat)
    rw [← codesD_get h i0 (by omega)] at hh
    have next : ¬ hits ls bs a i.toNat = true → (-9223372036854775808 ≤ i + 1 ∧ i + 1 ≤ 9223372036854775807) ∧ (0 ≤ i + 1 ∧ i + 1 ≤ 8 ∧ symFrom ls bs a (8 - (i + 1)).toNat (i + 1) = symAt ls bs a) ∧ (8 - (i + 1)).toNat < (8 - i).toNat := fun q => by
      rw [if_neg q] at hI; exact ⟨by omega, ⟨by omega, by omega, hI⟩, by omega⟩
    simp only [hh] at hI next
    rw [take_drop_cut h0 hx.1]
    refine ⟨i0, by omega, fun p0 => ⟨i0, by omega, by omega, fun hl => ⟨i0, by omega, by omega, h0, by omega, hl, ⟨_, rfl⟩, ⟨by rw [List.length_take, List.length_drop]; omega, allIn_take _ (allIn_drop _ hb'.2)⟩, ?_⟩, fun hl => next (fun q => by omega)⟩, fun p0 => next (fun q => by omega)⟩
    rintro n rfl
    exact ⟨i0, by omega, fun he => by rw [if_pos ⟨by omega, by omega, he⟩] at hI; exact hI, fun he => next (fun q => he q.2.2)⟩
  · rw [show (8 - i).toNat = 0 by omega] at hI
    exact hI
def V_s_PrefixDecode : Prop :=
  ∀ (l0 l1 : List Int) (n2 : Int), (l0.length : Int) ≤ 1099511627776 ∧ (l1.length : Int) ≤ 1099511627776 → (l0.length : Int) ≤ 1099511627776 ∧ (true = bitsIn l0 → (l1.length : Int) ≤ 1099511627776 ∧ (true = lensOk l1 → True ∧ (true = decide (0
 ≤ n2 ∧ n2 ≤ 40) → (l1.length : Int) ≤ 1099511627776 ∧ ∀ (l3 : List Int), l3 = codesD l1 ∧ (l3.length : Int) ≤ 8 → ∃ (I4 : List Int → Int → Int → Prop), ∃ (m5 : List Int → Int → Int → Nat), I4 [] 0 0 ∧ ∀ (l6 : List Int) (n7 n8 : Int), I4 l6
 n7 n8 → (n8 < n2 → (bitsIn l0 = true ∧ lensOk l1 = true ∧ l3 = codesD l1 ∧ 0 ≤ n7 ∧ n7 ≤ (l0.length : Int)) ∧ ∀ (n9 : Int), n9 = symAt l1 l0 n7 → (n9 < 0 → false = Option.isSome (decD l0 l1 n2) ∧ ([], 0) = Option.getD (decD l0 l1 n2) ([],
 0)) ∧ (¬n9 < 0 → (↑(l6.length + List.length [n9]) : Int) ≤ 1099511627776 ∧ 0 ≤ n9 ∧ n9 < (l1.length : Int) ∧ (-9223372036854775808 ≤ n7 + List.getD l1 (n9.toNat) 0 ∧ n7 + List.getD l1 (n9.toNat) (0 : Int) ≤ (9223372036854775807 : Int)) ∧
 (-9223372036854775808 ≤ n8 + 1 ∧ n8 + (1 : Int) ≤ (9223372036854775807 : Int)) ∧ I4 (l6 ++ [n9]) (n7 + List.getD l1 (n9.toNat) 0) (n8 + 1) ∧ m5 (l6 ++ [n9]) (n7 + List.getD l1 (n9.toNat) 0) (n8 + 1) < m5 l6 n7 n8)) ∧ (¬n8 < n2 → true =
 Option.isSome (decD l0 l1 n2) ∧ (l6, n7) = Option.getD (decD l0 l1 n2) ([], 0))) ∧ (false = decide (0 ≤ n2 ∧ n2 ≤ 40) → false = Option.isSome (decD l0 l1 n2) ∧ ([], 0) = Option.getD (decD l0 l1 n2) ([], 0))) ∧ (false = lensOk l1 → false =
 Option.isSome (decD l0 l1 n2) ∧ ([], 0) = Option.getD (decD l0 l1 n2) ([], 0))) ∧ (false = bitsIn l0 → false = Option.isSome (decD l0 l1 n2) ∧ ([], 0) = Option.getD (decD l0 l1 n2) ([], 0))
theorem v_s_PrefixDecode : V_s_PrefixDecode := by
  unfold V_s_PrefixDecode
  rintro bs ls m ⟨hz, hz'⟩
  refine ⟨hz, fun hb => ⟨hz', fun h => ⟨trivial, fun hm => ⟨hz', ?_⟩, fun hm => ?_⟩, fun h => ?_⟩, fun hb => ?_⟩
  · rintro cs ⟨rfl, hcl⟩
    replace h := h.symm
    have hm' := hm
    simp only [true_eq_decide_iff] at hm'
    have hD : decD bs ls m = decN ls bs m.toNat 0 := if_pos (by rw [← hb, h, ← hm]; rfl)
    have hls := h
    simp only [lensOk, Bool.and_eq_true] at hls
    have hls := lensIn_iff.1 hls.1
    have hb' := hb.symm
    simp only [bitsIn, Bool.and_eq_true, decide_eq_true_eq] at hb'
    rw [hD]
    refine ⟨fun o a i => 0 ≤ i ∧ i ≤ m ∧ 0 ≤ a ∧ a ≤ bs.length ∧ (o.length : Int) = i ∧ decN ls bs m.toNat 0 = (decN ls bs (m - i).toNat a).map (fun r => (o ++ r.1, r.2)), fun o a i => (m - i).toNat, ?_, ?_⟩ <;> dsimp only
    · refine ⟨by omega, by omega, by omega, by omega, by simp, ?_⟩
      rw [show m - 0 = m by omega]; simp
    rintro o a i ⟨i0, i1, a0, a1, ol, hI⟩
    refine ⟨fun hlt => ⟨⟨hb.symm, h, rfl, a0, a1⟩, ?_⟩, fun hge => ?_⟩
    · rw [show (m - i).toNat = (m - (i + 1)).toNat + 1 by omega, decN] at hI
      rintro s rfl
      refine ⟨fun hs => ?_, fun hs => ?_⟩
      · rw [if_pos hs] at hI; rw [hI]; simp
      · rw [if_neg hs] at hI
        rcases symAt_cases ls bs a with ⟨q1, _⟩ | ⟨q1, q2, q3⟩
        · omega
        · obtain ⟨p1, p2, p3⟩ := hits_iff.1 q3
          have hx := hls.2 _ (at_mem q1 (by omega : symAt ls bs a < (ls.length : Int)))
          refine ⟨by simp; omega, q1, by omega, by omega, by omega, ⟨by omega, by omega, by omega, by omega, by simp; omega, ?_⟩, by omega⟩
          rw [hI, Option.map_map]
          congr 1
          funext r
          simp
    · rw [show (m - i).toNat = 0 by omega, decN] at hI
      rw [hI]; simp
  · have : decD bs ls m = none := if_neg (by rw [← hm]; simp)
    rw [this]; simp
  · have : decD bs ls m = none := if_neg (by rw [← h]; simp)
    rw [this]; simp
  · have : decD bs ls m = none := if_neg (by rw [← hb]; simp)
    rw [this]; simp
def V_i_BytesBits : Prop :=
  ∀ (l0 : List Int), (l0.length : Int) ≤ 1099511627776 → (l0.length : Int) ≤ 1099511627776 ∧ (true = allIn 0 255 l0 → ((-9223372036854775808 : Int) ≤ 8 * (l0.length : Int) ∧ 8 * (l0.length : Int) ≤ (9223372036854775807 : Int)) ∧ ((600 : Int) <
 8 * (l0.length : Int) → false = (allIn 0 255 l0 && decide (8 * (l0.length : Int) ≤ 600)) ∧ [] = if false = true then bitsB l0 else []) ∧ (¬(600 : Int) < 8 * (l0.length : Int) → ∃ (I1 : List Int → Int → Prop), ∃ (m2 : List Int → Int → Nat),
 I1 [] 0 ∧ ∀ (l3 : List Int) (n4 : Int), I1 l3 n4 → (n4 < (l0.length : Int) → 0 ≤ n4 ∧ n4 < (l0.length : Int) ∧ ∃ (I5 : List Int → Int → Prop), ∃ (m6 : List Int → Int → Nat), I5 l3 7 ∧ ∀ (l7 : List Int) (n8 : Int), I5 l7 n8 → (0 ≤ n8 → 0 ≤ n8
 ∧ n8 < 63 ∧ (↑(l7.length + List.length [bitI BinOp.and (List.getD l0 (n4.toNat) 0 / 2 ^ n8.toNat) 1]) : Int) ≤ 1099511627776 ∧ (-9223372036854775808 ≤ n8 - 1 ∧ n8 - (1 : Int) ≤ (9223372036854775807 : Int)) ∧ I5 (l7 ++ [bitI BinOp.and
 (List.getD l0 (n4.toNat) 0 / 2 ^ n8.toNat) 1]) (n8 - 1) ∧ m6 (l7 ++ [bitI BinOp.and (List.getD l0 (n4.toNat) 0 / 2 ^ n8.toNat) 1]) (n8 - 1) < m6 l7 n8) ∧ (¬0 ≤ n8 → (-9223372036854775808 ≤ n4 + 1 ∧ n4 + (1 : Int) ≤ (9223372036854775807 :
 Int)) ∧ I1 l7 (n4 + 1) ∧ m2 l7 (n4 + 1) < m2 l3 n4)) ∧ (¬n4 < (l0.length : Int) → true = (allIn 0 255 l0 && decide (8 * (l0.length : Int) ≤ 600)) ∧ l3 = if true = true then bitsB l0 else []))) ∧ (false = allIn 0 255 l0 → false = (allIn 0 255
 l0 && decide (8 * (l0.length : Int) ≤ 600)) ∧ [] = if false = true then bitsB l0 else [])
theorem v_i_BytesBits : V_i_BytesBits := by
  unfold V_i_BytesBits
  intro l hz
  refine ⟨hz, fun hb => ⟨by omega, fun h6 => ?_, fun h6 => ?_⟩, fun hb => ?_⟩
  · rw [decide_eq_false (show ¬ 8 * (l.length : Int) ≤ 600 by omega)]; simp
  · rw [decide_eq_true (show 8 * (l.length : Int) ≤ 600 by omega), ← hb]
    have hin := allIn_iff.1 hb.symm
    refine ⟨fun o i => 0 ≤ i ∧ i ≤ l.length ∧ o = bitsB (l.take i.toNat), fun o i => (l.length - i).toNat, ?_, ?_⟩ <;> dsimp only
    · exact ⟨by omega, by omega, rfl⟩
    rintro o i ⟨i0, i1, rfl⟩
    refine ⟨fun hlt => ⟨i0, hlt, ?_⟩, fun hge => ?_⟩
    · have hx := hin _ (at_mem i0 hlt)
      have hbl := bitsB_len (l.take i.toNat)
      have hst : bitsB (l.take (i + 1).toNat) = bitsB (l.take i.toNat) ++ bitsOf 8 (l.getD i.toNat 0) := by
        rw [take_lt 0 i0 hlt, bitsB_append]; simp [bitsB]
      have htl := len_take (l := l) i0 i1
      generalize l.getD i.toNat 0 = x at *
      generalize bitsB (l.take i.toNat) = P at *
      refine ⟨fun o k => -1 ≤ k ∧ k ≤ 7 ∧ (o.length : Int) + k + 1 = P.length + 8 ∧ o ++ bitsOf (k + 1).toNat x = P ++ bitsOf 8 x, fun o k => (k + 1).toNat, ?_, ?_⟩ <;> dsimp only
      · exact ⟨by omega, by omega, by omega, rfl⟩
      rintro o k ⟨k0, k1, k2, hJ⟩
      refine ⟨fun hk => ?_, fun hk => ?_⟩
      · have hq : 0 ≤ x / 2 ^ k.toNat ∧ x / 2 ^ k.toNat ≤ x := by
          have hp' : (0 : Int) < 2 ^ k.toNat := Int.pow_pos (by omega)
          exact ⟨Int.ediv_nonneg hx.1 (by omega), Int.ediv_le_self _ hx.1⟩
        rw [bitI_low hq.1 (by omega)]
        rw [show (k + 1).toNat = k.toNat + 1 by omega, bitsOf_top _ _ hx.1] at hJ
        refine ⟨hk, by omega, by simp; omega, by omega, ⟨by omega, by omega, by simp; omega, ?_⟩, by omega⟩
        rw [show k - 1 + 1 = k by omega]
        simpa using hJ
      · rw [show (k + 1).toNat = 0 by omega] at hJ
        refine ⟨by omega, ⟨by omega, by omega, ?_⟩, by omega⟩
        rw [hst, ← hJ]; simp [bitsOf]
    · rw [take_ge hge]
      exact ⟨by trivial, by simp⟩
  · rw [← hb]; simp
end Go.Proofs.Ytkkgpcbkkahieaa
