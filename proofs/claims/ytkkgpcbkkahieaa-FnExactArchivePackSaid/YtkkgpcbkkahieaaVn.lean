/-
  The conditions of functions, proved: n_prefix.
-/
import Derived.Test.YtkkgpcbkkahieaaM
set_option linter.unusedVariables false
set_option linter.unusedSimpArgs false
open Go Go.Ax Go.Mx
namespace Go.Proofs.Ytkkgpcbkkahieaa
def V_i_PrefixEncode : Prop :=
  ∀ (l0 l1 : List Int), (l0.length : Int) ≤ 1099511627776 ∧ (l1.length : Int) ≤ 1099511627776 → (l1.length : Int) ≤ 1099511627776 ∧ ∀ (l2 : List Int), l2 = codesD l1 ∧ (l2.length : Int) ≤ 8 → (l0.length : Int) ≤ 1099511627776 ∧ (true = LV l0 →
 ((l2.length : Int) = 0 → false = Option.isSome (encD l0 l1) ∧ [] = Option.getD (encD l0 l1) []) ∧ (¬(l2.length : Int) = 0 → ∃ (I3 : List Int → Int → Prop), ∃ (m4 : List Int → Int → Nat), I3 [] 0 ∧ ∀ (l5 : List Int) (n6 : Int), I3 l5 n6 → (n6
 < (l0.length : Int) → 0 ≤ n6 ∧ n6 < (l0.length : Int) ∧ 0 ≤ List.getD l0 (n6.toNat) 0 ∧ List.getD l0 (n6.toNat) 0 < (l2.length : Int) ∧ Int.toNat (List.getD l0 (n6.toNat) 0) < l2.length ∧ (List.getD l2 (Int.toNat (List.getD l0 (n6.toNat) 0))
 (0 : Int) < 0 → false = Option.isSome (encD l0 l1) ∧ [] = Option.getD (encD l0 l1) []) ∧ (¬List.getD l2 (Int.toNat (List.getD l0 (n6.toNat) 0)) (0 : Int) < 0 → 0 ≤ List.getD l0 (n6.toNat) 0 ∧ List.getD l0 (n6.toNat) 0 < (l2.length : Int) ∧
 Int.toNat (List.getD l0 (n6.toNat) 0) < l2.length ∧ 0 ≤ List.getD l0 (n6.toNat) 0 ∧ List.getD l0 (n6.toNat) 0 < (l1.length : Int) ∧ (∃ (xs : List Int), ∃ (b : Bool), b = (bitsIn l5 && decide (0 ≤ List.getD l1 (Int.toNat (List.getD l0
 (n6.toNat) 0)) 0 ∧ List.getD l1 (Int.toNat (List.getD l0 (n6.toNat) 0)) (0 : Int) ≤ 16) && decide (0 ≤ List.getD l2 (Int.toNat (List.getD l0 (n6.toNat) 0)) 0 ∧ List.getD l2 (Int.toNat (List.getD l0 (n6.toNat) 0)) 0 ≤ p2 (List.getD l1
 (Int.toNat (List.getD l0 (n6.toNat) 0)) 0) - 1) && decide ((l5.length : Int) + List.getD l1 (Int.toNat (List.getD l0 (n6.toNat) 0)) (0 : Int) ≤ 600)) ∧ xs = if b = true then l5 ++ bitsOf (Int.toNat (List.getD l1 (Int.toNat (List.getD l0
 (n6.toNat) 0)) 0)) (List.getD l2 (Int.toNat (List.getD l0 (n6.toNat) 0)) 0) else []) ∧ (l5.length : Int) ≤ 1099511627776 ∧ ∀ (l7 : List Int), ((true = (bitsIn l5 && decide (0 ≤ List.getD l1 (Int.toNat (List.getD l0 (n6.toNat) 0)) 0 ∧
 List.getD l1 (Int.toNat (List.getD l0 (n6.toNat) 0)) (0 : Int) ≤ 16) && decide (0 ≤ List.getD l2 (Int.toNat (List.getD l0 (n6.toNat) 0)) 0 ∧ List.getD l2 (Int.toNat (List.getD l0 (n6.toNat) 0)) 0 ≤ p2 (List.getD l1 (Int.toNat (List.getD l0
 (n6.toNat) 0)) 0) - 1) && decide ((l5.length : Int) + List.getD l1 (Int.toNat (List.getD l0 (n6.toNat) 0)) (0 : Int) ≤ 600)) ∧ l7 = if true = true then l5 ++ bitsOf (Int.toNat (List.getD l1 (Int.toNat (List.getD l0 (n6.toNat) 0)) 0))
 (List.getD l2 (Int.toNat (List.getD l0 (n6.toNat) 0)) 0) else []) → (-9223372036854775808 ≤ n6 + 1 ∧ n6 + (1 : Int) ≤ (9223372036854775807 : Int)) ∧ I3 l7 (n6 + 1) ∧ m4 l7 (n6 + 1) < m4 l5 n6) ∧ ((false = (bitsIn l5 && decide (0 ≤ List.getD
 l1 (Int.toNat (List.getD l0 (n6.toNat) 0)) 0 ∧ List.getD l1 (Int.toNat (List.getD l0 (n6.toNat) 0)) (0 : Int) ≤ 16) && decide (0 ≤ List.getD l2 (Int.toNat (List.getD l0 (n6.toNat) 0)) 0 ∧ List.getD l2 (Int.toNat (List.getD l0 (n6.toNat) 0))
 0 ≤ p2 (List.getD l1 (Int.toNat (List.getD l0 (n6.toNat) 0)) 0) - 1) && decide ((l5.length : Int) + List.getD l1 (Int.toNat (List.getD l0 (n6.toNat) 0)) (0 : Int) ≤ 600)) ∧ l7 = if false = true then l5 ++ bitsOf (Int.toNat (List.getD l1
 (Int.toNat (List.getD l0 (n6.toNat) 0)) 0)) (List.getD l2 (Int.toNat (List.getD l0 (n6.toNat) 0)) 0) else []) → false = Option.isSome (encD l0 l1) ∧ [] = Option.getD (encD l0 l1) []))) ∧ (¬n6 < (l0.length : Int) → true = Option.isSome (encD
 l0 l1) ∧ l5 = Option.getD (encD l0 l1) []))) ∧ (false = LV l0 → false = Option.isSome (encD l0 l1) ∧ [] = Option.getD (encD l0 l1) [])
theorem v_i_PrefixEncode : V_i_PrefixEncode := by
  unfold V_i_PrefixEncode
  rintro l ls ⟨hz, hz'⟩
  refine ⟨hz', ?_⟩
  rintro cs ⟨rfl, hcl⟩
  refine ⟨hz, fun hv => ?_, fun hv => ?_⟩
  · replace hv := hv.symm
    refine ⟨fun h0 => ?_, fun h0 => ?_⟩
    · have : ¬ lensOk ls = true := fun h => by have := codesD_len h; omega
      have : encD l ls = none := if_neg (fun q => this (by simp only [Bool.and_eq_true] at q; exact q.1.2))
      rw [this]; simp
    have h : lensOk ls = true := by
      by_cases q : lensOk ls = true
      · exact q
      · have : codesD ls = [] := if_neg q
        rw [this] at h0; simp at h0
    have hl := LV_len hv
    have h8 : ls.length = 8 := by
      have := h
      simp only [lensOk, Bool.and_eq_true] at this
      exact (lensIn_iff.1 this.1).1
    have hc8 := codesD_len h
    have hD : encOk ls l = true → encD l ls = some (enc ls l) := fun q => if_pos (by rw [hv, h, q]; rfl)
    have hN : encOk ls l = false → encD l ls = none := fun q => if_neg (by rw [q]; simp)
    have hin : ∀ (i : Int), ∀ s ∈ l.take i.toNat, 0 ≤ s ∧ s ≤ 7 := fun i s hs => LV_in hv s (List.mem_of_mem_take hs)
    refine ⟨fun o i => 0 ≤ i ∧ i ≤ l.length ∧ encOk ls (l.take i.toNat) = true ∧ o = enc ls (l.take i.toNat), fun o i => (l.length - i).toNat, ?_, ?_⟩ <;> dsimp only
    · exact ⟨by omega, by omega, rfl, rfl⟩
    rintro o i ⟨i0, i1, hk, rfl⟩
    refine ⟨fun hlt => ?_, fun hge => ?_⟩
    · have hs := LV_at hv i0 hlt
      have hneg := code_neg h hs.1 hs.2
      have hst := enc_step (ls := ls) i0 hlt
      have hok := encOk_step (ls := ls) i0 hlt
      have hno := encOk_no (ls := ls) (l := l) i0 hlt
      obtain ⟨b1, b2⟩ := enc_bd h (hin i) hk
      have hg := codesD_get h hs.1 hs.2
      have hcode := code_ok h (s := (l.getD i.toNat 0).toNat) (by omega)
      have htl : ((l.take i.toNat).length : Int) = i := len_take i0 i1
      rw [hg] at hneg ⊢
      generalize l.getD i.toNat 0 = s at *
      refine ⟨i0, hlt, hs.1, by omega, by omega, fun hc => ?_, fun hc => ⟨hs.1, by omega, by omega, hs.1, by omega, ⟨_, _, rfl, rfl⟩, by omega, ?_⟩⟩
      · rw [hN (hno (hneg.1 hc))]; simp
      · have hp : 0 < ls.getD s.toNat 0 := by
          by_cases q : 0 < ls.getD s.toNat 0
          · exact q
          · exact absurd (hneg.2 q) hc
        obtain ⟨c1, c2, c3, c4⟩ := hcode hp
        have hb : bitsIn (enc ls (l.take i.toNat)) = true := by simp only [bitsIn, Bool.and_eq_true, decide_eq_true_eq]; exact ⟨by omega, b2⟩
        rw [hb, decide_eq_true (show 0 ≤ ls.getD s.toNat 0 ∧ ls.getD s.toNat 0 ≤ 16 by omega), decide_eq_true (show 0 ≤ code ls s.toNat ∧ code ls s.toNat ≤ p2 (ls.getD s.toNat 0) - 1 from ⟨c1, c3⟩), decide_eq_true (show ((enc ls (l.take i.toNat)).length : Int) + ls.getD s.toNat 0 ≤ 600 by omega)]
        intro x
        refine ⟨?_, fun q => by simp at q⟩
        rintro ⟨_, rfl⟩
        rw [if_pos rfl, ← hst]
        refine ⟨by omega, ⟨by omega, by omega, ?_, rfl⟩, by omega⟩
        rw [hok, hk, decide_eq_true hp]; rfl
    · rw [take_ge hge] at hk ⊢
      rw [hD hk]; exact ⟨by trivial, rfl⟩
  · have : encD l ls = none := if_neg (by rw [← hv]; simp)
    rw [this]; simp
def V_s_PrefixEncode : Prop :=
  ∀ (l0 l1 : List Int), (l0.length : Int) ≤ 1099511627776 ∧ (l1.length : Int) ≤ 1099511627776 → (l0.length : Int) ≤ 1099511627776 ∧ (true = LV l0 → (l1.length : Int) ≤ 1099511627776 ∧ (true = lensOk l1 → (l1.length : Int) ≤ 1099511627776 ∧ ∀
 (l2 : List Int), l2 = codesD l1 ∧ (l2.length : Int) ≤ 8 → ∃ (I3 : List Int → Int → Prop), ∃ (m4 : List Int → Int → Nat), I3 [] 0 ∧ ∀ (l5 : List Int) (n6 : Int), I3 l5 n6 → (n6 < (l0.length : Int) → 0 ≤ n6 ∧ n6 < (l0.length : Int) ∧ 0 ≤
 List.getD l0 (n6.toNat) 0 ∧ List.getD l0 (n6.toNat) 0 < (l2.length : Int) ∧ Int.toNat (List.getD l0 (n6.toNat) 0) < l2.length ∧ (List.getD l2 (Int.toNat (List.getD l0 (n6.toNat) 0)) (0 : Int) < 0 → false = Option.isSome (encD l0 l1) ∧ [] =
 Option.getD (encD l0 l1) []) ∧ (¬List.getD l2 (Int.toNat (List.getD l0 (n6.toNat) 0)) (0 : Int) < 0 → 0 ≤ n6 ∧ n6 < (l0.length : Int) ∧ 0 ≤ List.getD l0 (n6.toNat) 0 ∧ List.getD l0 (n6.toNat) 0 < (l2.length : Int) ∧ Int.toNat (List.getD l0
 (n6.toNat) 0) < l2.length ∧ 0 ≤ n6 ∧ n6 < (l0.length : Int) ∧ 0 ≤ List.getD l0 (n6.toNat) 0 ∧ List.getD l0 (n6.toNat) 0 < (l1.length : Int) ∧ (∃ (xs : List Int), xs = bitsOf (Int.toNat (List.getD l1 (Int.toNat (List.getD l0 (n6.toNat) 0))
 0)) (List.getD l2 (Int.toNat (List.getD l0 (n6.toNat) 0)) 0)) ∧ (0 ≤ List.getD l2 (Int.toNat (List.getD l0 (n6.toNat) 0)) 0 ∧ List.getD l2 (Int.toNat (List.getD l0 (n6.toNat) 0)) (0 : Int) ≤ 100000000 ∧ 0 ≤ List.getD l1 (Int.toNat (List.getD
 l0 (n6.toNat) 0)) 0 ∧ List.getD l1 (Int.toNat (List.getD l0 (n6.toNat) 0)) (0 : Int) ≤ 16) ∧ ∀ (l7 : List Int), l7 = bitsOf (Int.toNat (List.getD l1 (Int.toNat (List.getD l0 (n6.toNat) 0)) 0)) (List.getD l2 (Int.toNat (List.getD l0
 (n6.toNat) 0)) 0) → (↑(l5.length + l7.length) : Int) ≤ 1099511627776 ∧ (-9223372036854775808 ≤ n6 + 1 ∧ n6 + (1 : Int) ≤ (9223372036854775807 : Int)) ∧ I3 (l5 ++ l7) (n6 + 1) ∧ m4 (l5 ++ l7) (n6 + 1) < m4 l5 n6)) ∧ (¬n6 < (l0.length : Int) →
 (600 < (l5.length : Int) → false = Option.isSome (encD l0 l1) ∧ [] = Option.getD (encD l0 l1) []) ∧ (¬600 < (l5.length : Int) → true = Option.isSome (encD l0 l1) ∧ l5 = Option.getD (encD l0 l1) []))) ∧ (false = lensOk l1 → false =
 Option.isSome (encD l0 l1) ∧ [] = Option.getD (encD l0 l1) [])) ∧ (false = LV l0 → false = Option.isSome (encD l0 l1) ∧ [] = Option.getD (encD l0 l1) [])
theorem v_s_PrefixEncode : V_s_PrefixEncode := by
  unfold V_s_PrefixEncode
  rintro l ls ⟨hz, hz'⟩
  refine ⟨hz, fun hv => ⟨hz', fun h => ⟨hz', ?_⟩, fun h => ?_⟩, fun hv => ?_⟩
  · rintro cs ⟨rfl, hcl⟩
    replace hv := hv.symm
    replace h := h.symm
    have hl := LV_len hv
    have h8 : ls.length = 8 := by
      have := h
      simp only [lensOk, Bool.and_eq_true] at this
      exact (lensIn_iff.1 this.1).1
    have hc8 := codesD_len h
    have hD : encOk ls l = true → encD l ls = some (enc ls l) := fun q => if_pos (by rw [hv, h, q]; rfl)
    have hN : encOk ls l = false → encD l ls = none := fun q => if_neg (by rw [q]; simp)
    have hin : ∀ (i : Int), ∀ s ∈ l.take i.toNat, 0 ≤ s ∧ s ≤ 7 := fun i s hs => LV_in hv s (List.mem_of_mem_take hs)
    refine ⟨fun o i => 0 ≤ i ∧ i ≤ l.length ∧ encOk ls (l.take i.toNat) = true ∧ o = enc ls (l.take i.toNat), fun o i => (l.length - i).toNat, ?_, ?_⟩ <;> dsimp only
    · exact ⟨by omega, by omega, rfl, rfl⟩
    rintro o i ⟨i0, i1, hk, rfl⟩
    obtain ⟨b1, b2⟩ := enc_bd h (hin i) hk
    have htl : ((l.take i.toNat).length : Int) = i := len_take i0 i1
    refine ⟨fun hlt => ?_, fun hge => ?_⟩
    · have hs := LV_at hv i0 hlt
      have hneg := code_neg h hs.1 hs.2
      have hst := enc_step (ls := ls) i0 hlt
      have hok := encOk_step (ls := ls) i0 hlt
      have hno := encOk_no (ls := ls) (l := l) i0 hlt
      have hg := codesD_get h hs.1 hs.2
      have hcode := code_ok h (s := (l.getD i.toNat 0).toNat) (by omega)
      rw [hg] at hneg ⊢
      generalize l.getD i.toNat 0 = s at *
      refine ⟨i0, hlt, hs.1, by omega, by omega, fun hc => ?_, fun hc => ?_⟩
      · rw [hN (hno (hneg.1 hc))]; simp
      · have hp : 0 < ls.getD s.toNat 0 := by
          by_cases q : 0 < ls.getD s.toNat 0
          · exact q
          · exact absurd (hneg.2 q) hc
        obtain ⟨c1, c2, c3, c4⟩ := hcode hp
        have hp2 : p2 (ls.getD s.toNat 0) ≤ 256 := by
          have e : p2 (ls.getD s.toNat 0) * p2 (8 - ls.getD s.toNat 0) = 256 := by
            rw [← p2_add (by omega) (by omega), show ls.getD s.toNat 0 + (8 - ls.getD s.toNat 0) = 8 by omega]; rfl
          have q1 := p2_pos (8 - ls.getD s.toNat 0)
          have : p2 (ls.getD s.toNat 0) * 1 ≤ p2 (ls.getD s.toNat 0) * p2 (8 - ls.getD s.toNat 0) := Int.mul_le_mul_of_nonneg_left (by omega) (by have := p2_pos (ls.getD s.toNat 0); omega)
          omega
        refine ⟨i0, hlt, hs.1, by omega, by omega, i0, hlt, hs.1, by omega, ⟨_, rfl⟩, ⟨c1, by omega, by omega, by omega⟩, ?_⟩
        rintro x rfl
        rw [← hst]
        refine ⟨by rw [bitsOf_len]; omega, by omega, ⟨by omega, by omega, ?_, rfl⟩, by omega⟩
        rw [hok, hk, decide_eq_true hp]; rfl
    · refine ⟨fun h6 => by omega, fun _ => ?_⟩
      rw [take_ge hge] at hk ⊢
      rw [hD hk]; exact ⟨by trivial, rfl⟩
  · have : encD l ls = none := if_neg (by rw [← h]; simp)
    rw [this]; simp
  · have : encD l ls = none := if_neg (by rw [← hv]; simp)
    rw [this]; simp
end Go.Proofs.Ytkkgpcbkkahieaa
