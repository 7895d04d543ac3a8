/-
  The conditions of functions, proved: w_text.
-/
import Derived.Test.YtfnmhnbadepooaaGreatDoorM
set_option linter.unusedVariables false
set_option linter.unusedSimpArgs false
open Go Go.Ax Go.Mx
namespace Go.Proofs.YtfnmhnbadepooaaGreatDoor
def V_s_l6Dec (kk : Nat) : Prop :=
  ∀ (n0 : Int), (-1000000000 < n0 ∧ n0 < 1000000000) ∧ decM n0 < kk + 1 → (n0 < -9223372036854775807 → ([45, 57, 50, 50, 51, 51, 55, 50, 48, 51, 54, 56, 53, 52, 55, 55, 53, 56, 48, 56] : List UInt8) = decI n0 ∧ (↑(List.length ([45, 57, 50, 50,
 51, 51, 55, 50, 48, 51, 54, 56, 53, 52, 55, 55, 53, 56, 48, 56] : List UInt8)) : Int) ≤ 10) ∧ (¬n0 < -9223372036854775807 → (n0 < 0 → (-9223372036854775808 ≤ -n0 ∧ -n0 ≤ (9223372036854775807 : Int)) ∧ ((-1000000000 < -n0 ∧ -n0 < 1000000000)
 ∧ decM (-n0) < kk) ∧ ∀ (l1 : List UInt8), l1 = decI (-n0) ∧ (l1.length : Int) ≤ 10 → (↑(List.length ([45] : List UInt8) + l1.length) : Int) ≤ 1099511627776 ∧ ([45] : List UInt8) ++ l1 = decI n0 ∧ (↑(List.length (([45] : List UInt8) ++ l1)) :
 Int) ≤ 10) ∧ (¬n0 < 0 → (n0 < 10 → ((-9223372036854775808 : Int) ≤ 48 + n0 ∧ 48 + n0 ≤ (9223372036854775807 : Int)) ∧ ((0 : Int) ≤ 48 + n0 ∧ 48 + n0 ≤ 255) ∧ ((0 : Int) ≤ 48 + n0 ∧ 48 + n0 ≤ 255) ∧ [UInt8.ofNat (Int.toNat (48 + n0))] = decI
 n0 ∧ (↑(List.length [UInt8.ofNat (Int.toNat (48 + n0))]) : Int) ≤ 10) ∧ (¬n0 < 10 → 0 ≤ n0 ∧ (0 : Int) < 10 ∧ (-9223372036854775808 ≤ n0 / 10 ∧ n0 / (10 : Int) ≤ (9223372036854775807 : Int)) ∧ (∃ (l : List UInt8), l = decI (n0 / 10) ∧
 (↑(List.length l) : Int) ≤ 10) ∧ ((-1000000000 < n0 / 10 ∧ n0 / (10 : Int) < 1000000000) ∧ decM (n0 / 10) < kk) ∧ ∀ (l2 : List UInt8), l2 = decI (n0 / 10) ∧ (l2.length : Int) ≤ 10 → 0 ≤ n0 ∧ (0 : Int) < 10 ∧ ((-9223372036854775808 : Int) ≤
 48 + n0 % 10 ∧ 48 + n0 % (10 : Int) ≤ (9223372036854775807 : Int)) ∧ ((0 : Int) ≤ 48 + n0 % 10 ∧ 48 + n0 % (10 : Int) ≤ 255) ∧ ((0 : Int) ≤ 48 + n0 % 10 ∧ 48 + n0 % (10 : Int) ≤ 255) ∧ (↑(l2.length + List.length [UInt8.ofNat (Int.toNat (48 +
 n0 % 10))]) : Int) ≤ 1099511627776 ∧ l2 ++ [UInt8.ofNat (Int.toNat (48 + n0 % 10))] = decI n0 ∧ (↑(List.length (l2 ++ [UInt8.ofNat (Int.toNat (48 + n0 % 10))])) : Int) ≤ 10)))
theorem v_s_l6Dec (kk : Nat) : V_s_l6Dec kk := by
  unfold V_s_l6Dec
  rintro n ⟨⟨h0, h1⟩, hm⟩
  have hlen := decI_len h0 h1
  refine ⟨fun h => by omega, fun _ => ⟨fun hn => ⟨by omega, ⟨⟨by omega, by omega⟩, by unfold decM at hm ⊢; rw [if_pos hn] at hm; rw [if_neg (by omega)]; omega⟩, ?_⟩, fun hn => ⟨fun hs => ?_, fun hs => ⟨by omega, by omega, by omega, ⟨_, rfl, by have := decI_len (n := n / 10) (by omega) (by omega); omega⟩, ⟨⟨by omega, by omega⟩, by unfold decM at hm ⊢; rw [if_neg hn] at hm; rw [if_neg (by omega)]; omega⟩, ?_⟩⟩⟩⟩
  · rintro s ⟨rfl, hs⟩
    rw [decI_neg hn] at hlen ⊢
    exact ⟨by simp only [List.length_cons, List.length_nil]; omega, rfl, by simp only [List.length_cons, List.length_append, List.length_nil] at hlen ⊢; omega⟩
  · rw [decI_small (by omega) hs] at hlen ⊢
    exact ⟨by omega, by omega, by omega, rfl, by omega⟩
  · rintro s ⟨rfl, hs2⟩
    rw [decI_big hs] at hlen ⊢
    exact ⟨by omega, by omega, by omega, by omega, by omega, by simp only [List.length_cons, List.length_nil]; omega, rfl, by omega⟩
def V_i_numbers : Prop :=
  ∀ (l0 : List Int), (l0.length : Int) ≤ 100 ∧ allIn (-1000000) 1000000 l0 = true → ∃ (I1 : List UInt8 → Int → Prop), ∃ (m2 : List UInt8 → Int → Nat), I1 ([] : List UInt8) 0 ∧ ∀ (l3 : List UInt8) (n4 : Int), I1 l3 n4 → (n4 < (l0.length : Int)
 → 0 ≤ n4 ∧ n4 < (l0.length : Int) ∧ (-1000000000 < List.getD l0 (n4.toNat) 0 ∧ List.getD l0 (n4.toNat) (0 : Int) < 1000000000) ∧ ∀ (l5 : List UInt8), l5 = decI (List.getD l0 (n4.toNat) 0) ∧ (l5.length : Int) ≤ 10 → (↑(List.length ([32] :
 List UInt8) + l5.length) : Int) ≤ 1099511627776 ∧ (↑(l3.length + List.length (([32] : List UInt8) ++ l5)) : Int) ≤ 1099511627776 ∧ (-9223372036854775808 ≤ n4 + 1 ∧ n4 + (1 : Int) ≤ (9223372036854775807 : Int)) ∧ I1 (l3 ++ (([32] : List
 UInt8) ++ l5)) (n4 + 1) ∧ m2 (l3 ++ (([32] : List UInt8) ++ l5)) (n4 + 1) < m2 l3 n4) ∧ (¬n4 < (l0.length : Int) → l3 = numsS l0 ∧ (l3.length : Int) ≤ 1100)
theorem v_i_numbers : V_i_numbers := by
  unfold V_i_numbers
  rintro l ⟨hl, hin⟩
  refine ⟨fun s i => 0 ≤ i ∧ i ≤ l.length ∧ s = numsS (l.take i.toNat), fun s i => (l.length - i).toNat, ?_, ?_⟩ <;> dsimp only
  · exact ⟨by omega, by omega, rfl⟩
  rintro s i ⟨i0, i1, rfl⟩
  have hlen := numsS_len (allIn_take i.toNat hin)
  have htl := List.length_take (i := i.toNat) (l := l)
  refine ⟨fun hi => ?_, fun hi => ?_⟩
  · have hx := allIn_iff.1 hin _ (getD_memG 0 i0 hi)
    have hst : numsS (l.take (i + 1).toNat) = numsS (l.take i.toNat) ++ 32 :: decI (l.getD i.toNat 0) := flat_lt _ 0 i0 hi
    refine ⟨i0, hi, by omega, ?_⟩
    rintro d ⟨rfl, hd⟩
    exact ⟨by simp only [List.length_cons, List.length_nil]; omega, by simp only [List.length_append, List.length_cons, List.length_nil]; omega, by omega, ⟨by omega, by omega, hst.symm⟩, by omega⟩
  · rw [take_ge hi] at hlen ⊢
    exact ⟨rfl, by omega⟩
def V_i_digits : Prop :=
  ∀ (l0 : List Int), (l0.length : Int) ≤ 100 ∧ allIn 0 7 l0 = true → ∃ (I1 : List UInt8 → Int → Prop), ∃ (m2 : List UInt8 → Int → Nat), I1 [] 0 ∧ ∀ (l3 : List UInt8) (n4 : Int), I1 l3 n4 → (n4 < (l0.length : Int) → 0 ≤ n4 ∧ n4 < (l0.length :
 Int) ∧ ((-9223372036854775808 : Int) ≤ 48 + List.getD l0 (n4.toNat) 0 ∧ 48 + List.getD l0 (n4.toNat) (0 : Int) ≤ (9223372036854775807 : Int)) ∧ ((0 : Int) ≤ 48 + List.getD l0 (n4.toNat) 0 ∧ 48 + List.getD l0 (n4.toNat) (0 : Int) ≤ 255) ∧ ((0
 : Int) ≤ 48 + List.getD l0 (n4.toNat) 0 ∧ 48 + List.getD l0 (n4.toNat) (0 : Int) ≤ 255) ∧ (↑(l3.length + List.length [UInt8.ofNat (Int.toNat (48 + List.getD l0 (n4.toNat) 0))]) : Int) ≤ 1099511627776 ∧ (-9223372036854775808 ≤ n4 + 1 ∧ n4 +
 (1 : Int) ≤ (9223372036854775807 : Int)) ∧ I1 (l3 ++ [UInt8.ofNat (Int.toNat (48 + List.getD l0 (n4.toNat) 0))]) (n4 + 1) ∧ m2 (l3 ++ [UInt8.ofNat (Int.toNat (48 + List.getD l0 (n4.toNat) 0))]) (n4 + 1) < m2 l3 n4) ∧ (¬n4 < (l0.length : Int)
 → l3 = digS l0 ∧ (l3.length : Int) ≤ 100)
theorem v_i_digits : V_i_digits := by
  unfold V_i_digits
  rintro l ⟨hl, hin⟩
  refine ⟨fun s i => 0 ≤ i ∧ i ≤ l.length ∧ s = digS (l.take i.toNat), fun s i => (l.length - i).toNat, ?_, ?_⟩ <;> dsimp only
  · exact ⟨by omega, by omega, rfl⟩
  rintro s i ⟨i0, i1, rfl⟩
  have hlen : (digS (l.take i.toNat)).length = (l.take i.toNat).length := List.length_map _
  have htl := List.length_take (i := i.toNat) (l := l)
  refine ⟨fun hi => ?_, fun hi => ?_⟩
  · have hx := allIn_iff.1 hin _ (getD_memG 0 i0 hi)
    have hst := digS_lt i0 hi
    generalize l.getD i.toNat 0 = x at *
    exact ⟨i0, hi, by omega, by omega, by omega, by simp only [List.length_cons, List.length_nil]; omega, by omega, ⟨by omega, by omega, by rw [hst, show (48 + x).toNat = 48 + x.toNat by omega]⟩, by omega⟩
  · rw [take_ge hi] at hlen ⊢
    exact ⟨rfl, by omega⟩
def V_i_tokenTexts : Prop :=
  ∀ (l0 : List (Int × Int × Int)), (l0.length : Int) ≤ 40 ∧ toksB l0 → ∃ (I1 : List UInt8 → Int → Prop), ∃ (m2 : List UInt8 → Int → Nat), I1 ([116, 111, 107, 101, 110, 115] : List UInt8) 0 ∧ ∀ (l3 : List UInt8) (n4 : Int), I1 l3 n4 → (n4 <
 (l0.length : Int) → 0 ≤ n4 ∧ n4 < (l0.length : Int) ∧ (Prod.snd (Prod.snd (List.getD l0 (n4.toNat) (0, 0, 0))) = 0 → (-1000000000 < Prod.fst (List.getD l0 (n4.toNat) (0, 0, 0)) ∧ Prod.fst (List.getD l0 (n4.toNat) (0, 0, 0)) < 1000000000) ∧ ∀
 (l5 : List UInt8), l5 = decI (Prod.fst (List.getD l0 (n4.toNat) (0, 0, 0))) ∧ (l5.length : Int) ≤ 10 → (↑(List.length ([32] : List UInt8) + l5.length) : Int) ≤ 1099511627776 ∧ (↑(l3.length + List.length (([32] : List UInt8) ++ l5)) : Int) ≤
 1099511627776 ∧ (-9223372036854775808 ≤ n4 + 1 ∧ n4 + (1 : Int) ≤ (9223372036854775807 : Int)) ∧ I1 (l3 ++ (([32] : List UInt8) ++ l5)) (n4 + 1) ∧ m2 (l3 ++ (([32] : List UInt8) ++ l5)) (n4 + 1) < m2 l3 n4) ∧ (¬Prod.snd (Prod.snd (List.getD
 l0 (n4.toNat) (0, 0, 0))) = 0 → (∃ (l : List UInt8), l = decI (Prod.fst (Prod.snd (List.getD l0 (n4.toNat) (0, 0, 0)))) ∧ (↑(List.length l) : Int) ≤ 10) ∧ (-1000000000 < Prod.fst (Prod.snd (List.getD l0 (n4.toNat) (0, 0, 0))) ∧ Prod.fst
 (Prod.snd (List.getD l0 (n4.toNat) (0, 0, 0))) < 1000000000) ∧ ∀ (l6 : List UInt8), l6 = decI (Prod.fst (Prod.snd (List.getD l0 (n4.toNat) (0, 0, 0)))) ∧ (l6.length : Int) ≤ 10 → (↑(List.length ([32] : List UInt8) + l6.length) : Int) ≤
 1099511627776 ∧ (↑(List.length (([32] : List UInt8) ++ l6) + List.length ([58] : List UInt8)) : Int) ≤ 1099511627776 ∧ (∃ (l : List UInt8), l = decI (Prod.snd (Prod.snd (List.getD l0 (n4.toNat) (0, 0, 0)))) ∧ (↑(List.length l) : Int) ≤ 10) ∧
 (-1000000000 < Prod.snd (Prod.snd (List.getD l0 (n4.toNat) (0, 0, 0))) ∧ Prod.snd (Prod.snd (List.getD l0 (n4.toNat) (0, 0, 0))) < 1000000000) ∧ ∀ (l7 : List UInt8), l7 = decI (Prod.snd (Prod.snd (List.getD l0 (n4.toNat) (0, 0, 0)))) ∧
 (l7.length : Int) ≤ 10 → (↑(List.length (([32] : List UInt8) ++ l6 ++ ([58] : List UInt8)) + l7.length) : Int) ≤ 1099511627776 ∧ (↑(l3.length + List.length (([32] : List UInt8) ++ l6 ++ ([58] : List UInt8) ++ l7)) : Int) ≤ 1099511627776 ∧
 (-9223372036854775808 ≤ n4 + 1 ∧ n4 + (1 : Int) ≤ (9223372036854775807 : Int)) ∧ I1 (l3 ++ (([32] : List UInt8) ++ l6 ++ ([58] : List UInt8) ++ l7)) (n4 + 1) ∧ m2 (l3 ++ (([32] : List UInt8) ++ l6 ++ ([58] : List UInt8) ++ l7)) (n4 + 1) < m2
 l3 n4)) ∧ (¬n4 < (l0.length : Int) → l3 = [116, 111, 107, 101, 110, 115] ++ toksS l0 ∧ (l3.length : Int) ≤ 1000)
theorem v_i_tokenTexts : V_i_tokenTexts := by
  unfold V_i_tokenTexts
  rintro l ⟨hl, hin⟩
  refine ⟨fun s i => 0 ≤ i ∧ i ≤ l.length ∧ s = [116, 111, 107, 101, 110, 115] ++ toksS (l.take i.toNat), fun s i => (l.length - i).toNat, ?_, ?_⟩ <;> dsimp only
  · exact ⟨by omega, by omega, rfl⟩
  rintro s i ⟨i0, i1, rfl⟩
  have hlen := toksS_len (l := l.take i.toNat) (fun x hx => hin x (List.mem_of_mem_take hx))
  have htl := List.length_take (i := i.toNat) (l := l)
  have hla : ([116, 111, 107, 101, 110, 115] ++ toksS (l.take i.toNat)).length = 6 + (toksS (l.take i.toNat)).length := by simp; omega
  refine ⟨fun hi => ⟨i0, hi, ?_⟩, fun hi => ?_⟩
  · have hx := hin _ (getD_memG (0, 0, 0) i0 hi)
    have hst : toksS (l.take (i + 1).toNat) = toksS (l.take i.toNat) ++ tokS (l.getD i.toNat (0, 0, 0)) := flat_lt _ (0, 0, 0) i0 hi
    obtain ⟨x1, x2, x3, x4, x5, x6, x7⟩ := hx
    generalize l.getD i.toNat (0, 0, 0) = x at *
    unfold tokS at hst
    refine ⟨fun h => ?_, fun h => ?_⟩
    · rw [if_pos h] at hst
      refine ⟨by omega, ?_⟩
      rintro d ⟨rfl, hd⟩
      exact ⟨by simp only [List.length_cons, List.length_nil]; omega, by simp only [List.length_append, List.length_cons, List.length_nil] at hla ⊢; omega, by omega, ⟨by omega, by omega, by rw [hst, List.append_assoc]; rfl⟩, by omega⟩
    · rw [if_neg h] at hst
      refine ⟨⟨_, rfl, by have := decI_len (n := x.2.1) (by omega) (by omega); omega⟩, by omega, ?_⟩
      rintro d ⟨rfl, hd⟩
      refine ⟨by simp only [List.length_cons, List.length_nil]; omega, by simp only [List.length_append, List.length_cons, List.length_nil]; omega, ⟨_, rfl, by have := decI_len (n := x.2.2) (by omega) (by omega); omega⟩, by omega, ?_⟩
      rintro e ⟨rfl, he⟩
      exact ⟨by simp only [List.length_append, List.length_cons, List.length_nil]; omega, by simp only [List.length_append, List.length_cons, List.length_nil] at hla ⊢; omega, by omega, ⟨by omega, by omega, by rw [hst]; simp⟩, by omega⟩
  · rw [take_ge hi] at hlen hla ⊢
    exact ⟨rfl, by omega⟩
def V_i_answer : Prop :=
  ∀ (l0 : List UInt8), (l0.length : Int) ≤ 600 → (([32] : List UInt8) = [32] ∧ (l0.length : Int) ≤ 100000) ∧ ∀ (l1 l2 : List UInt8), ((l1, l2, true) = cutS l0 → ∃ (I3 : List Int → Int → Prop), ∃ (m4 : List Int → Int → Nat), I3 [] 0 ∧ ∀ (l5 :
 List Int) (n6 : Int), I3 l5 n6 → (n6 < (l2.length : Int) → 0 ≤ n6 ∧ n6 < (l2.length : Int) ∧ (-9223372036854775808 ≤ (↑(UInt8.toNat (List.getD l2 (n6.toNat) 0)) : Int) ∧ (↑(UInt8.toNat (List.getD l2 (n6.toNat) 0)) : Int) ≤
 (9223372036854775807 : Int)) ∧ (-9223372036854775808 ≤ (↑(UInt8.toNat (List.getD l2 (n6.toNat) 0)) : Int) - 48 ∧ (↑(UInt8.toNat (List.getD l2 (n6.toNat) 0)) : Int) - (48 : Int) ≤ (9223372036854775807 : Int)) ∧ (↑(l5.length + List.length
 [(↑(UInt8.toNat (List.getD l2 (n6.toNat) 0)) : Int) - 48]) : Int) ≤ 1099511627776 ∧ (-9223372036854775808 ≤ n6 + 1 ∧ n6 + (1 : Int) ≤ (9223372036854775807 : Int)) ∧ I3 (l5 ++ [(↑(UInt8.toNat (List.getD l2 (n6.toNat) 0)) : Int) - 48]) (n6 +
 1) ∧ m4 (l5 ++ [(↑(UInt8.toNat (List.getD l2 (n6.toNat) 0)) : Int) - 48]) (n6 + 1) < m4 l5 n6) ∧ (¬n6 < (l2.length : Int) → (l5.length : Int) ≤ 1099511627776 ∧ (true = LV l5 → (l1 = ([112, 97, 99, 107] : List UInt8) → (l5.length : Int) ≤
 1099511627776 ∧ ∀ (l7 : List Int), l7 = packB l5 ∧ (l7.length : Int) ≤ 82 → ((l7.length : Int) ≤ 100 ∧ allIn (-1000000) 1000000 l7 = true) ∧ ∀ (l8 : List UInt8), l8 = numsS l7 ∧ (l8.length : Int) ≤ 1100 → (↑(List.length ([98, 108, 111, 99,
 107] : List UInt8) + l8.length) : Int) ≤ 1099511627776 ∧ ([98, 108, 111, 99, 107] : List UInt8) ++ l8 = lineS l0 ∧ (↑(List.length (([98, 108, 111, 99, 107] : List UInt8) ++ l8)) : Int) ≤ 1200) ∧ (¬l1 = ([112, 97, 99, 107] : List UInt8) → (l1
 = ([115, 105, 122, 101, 115] : List UInt8) → (l5.length : Int) ≤ 1099511627776 ∧ ∀ (l9 : List Int), l9 = sizesD l5 ∧ (l9.length : Int) ≤ 4 → ((l9.length : Int) ≤ 100 ∧ allIn (-1000000) 1000000 l9 = true) ∧ ∀ (l10 : List UInt8), l10 = numsS
 l9 ∧ (l10.length : Int) ≤ 1100 → (↑(List.length ([115, 105, 122, 101, 115] : List UInt8) + l10.length) : Int) ≤ 1099511627776 ∧ ([115, 105, 122, 101, 115] : List UInt8) ++ l10 = lineS l0 ∧ (↑(List.length (([115, 105, 122, 101, 115] : List
 UInt8) ++ l10)) : Int) ≤ 1200) ∧ (¬l1 = ([115, 105, 122, 101, 115] : List UInt8) → (l1 = ([114, 117, 110, 115] : List UInt8) → (l5.length : Int) ≤ 1099511627776 ∧ ∀ (l11 : List (Int × Int)), l11 = runsD l5 ∧ (l11.length : Int) ≤ 40 → ∃ (I12
 : List UInt8 → Int → Prop), ∃ (m13 : List UInt8 → Int → Nat), I12 ([114, 117, 110, 115] : List UInt8) 0 ∧ ∀ (l14 : List UInt8) (n15 : Int), I12 l14 n15 → (n15 < (l11.length : Int) → 0 ≤ n15 ∧ n15 < (l11.length : Int) ∧ n15.toNat < l11.length
 ∧ (∃ (l : List UInt8), l = decI (Prod.fst (List.getD l11 (n15.toNat) (0, 0))) ∧ (↑(List.length l) : Int) ≤ 10) ∧ (-1000000000 < Prod.fst (List.getD l11 (n15.toNat) (0, 0)) ∧ Prod.fst (List.getD l11 (n15.toNat) (0, 0)) < 1000000000) ∧ ∀ (l16
 : List UInt8), l16 = decI (Prod.fst (List.getD l11 (n15.toNat) (0, 0))) ∧ (l16.length : Int) ≤ 10 → (↑(List.length ([32] : List UInt8) + l16.length) : Int) ≤ 1099511627776 ∧ (↑(List.length (([32] : List UInt8) ++ l16) + List.length ([42] :
 List UInt8)) : Int) ≤ 1099511627776 ∧ (∃ (l : List UInt8), l = decI (Prod.snd (List.getD l11 (n15.toNat) (0, 0))) ∧ (↑(List.length l) : Int) ≤ 10) ∧ (-1000000000 < Prod.snd (List.getD l11 (n15.toNat) (0, 0)) ∧ Prod.snd (List.getD l11
 (n15.toNat) (0, 0)) < 1000000000) ∧ ∀ (l17 : List UInt8), l17 = decI (Prod.snd (List.getD l11 (n15.toNat) (0, 0))) ∧ (l17.length : Int) ≤ 10 → (↑(List.length (([32] : List UInt8) ++ l16 ++ ([42] : List UInt8)) + l17.length) : Int) ≤
 1099511627776 ∧ (↑(l14.length + List.length (([32] : List UInt8) ++ l16 ++ ([42] : List UInt8) ++ l17)) : Int) ≤ 1099511627776 ∧ (-9223372036854775808 ≤ n15 + 1 ∧ n15 + (1 : Int) ≤ (9223372036854775807 : Int)) ∧ I12 (l14 ++ (([32] : List
 UInt8) ++ l16 ++ ([42] : List UInt8) ++ l17)) (n15 + 1) ∧ m13 (l14 ++ (([32] : List UInt8) ++ l16 ++ ([42] : List UInt8) ++ l17)) (n15 + 1) < m13 l14 n15) ∧ (¬n15 < (l11.length : Int) → l14 = lineS l0 ∧ (l14.length : Int) ≤ 1200)) ∧ (¬l1 =
 ([114, 117, 110, 115] : List UInt8) → (l1 = ([102, 114, 111, 110, 116] : List UInt8) → (l5.length : Int) ≤ 1099511627776 ∧ ∀ (l18 : List Int), l18 = frontD l5 ∧ (l18.length : Int) ≤ 40 → ((l18.length : Int) ≤ 100 ∧ allIn 0 7 l18 = true) ∧ ∀
 (l19 : List UInt8), l19 = digS l18 ∧ (l19.length : Int) ≤ 100 → (↑(List.length ([102, 114, 111, 110, 116, 32] : List UInt8) + l19.length) : Int) ≤ 1099511627776 ∧ ([102, 114, 111, 110, 116, 32] : List UInt8) ++ l19 = lineS l0 ∧
 (↑(List.length (([102, 114, 111, 110, 116, 32] : List UInt8) ++ l19)) : Int) ≤ 1200) ∧ (¬l1 = ([102, 114, 111, 110, 116] : List UInt8) → (l1 = ([116, 117, 114, 110] : List UInt8) → (l5.length : Int) ≤ 1099511627776 ∧ ∀ (l20 : List Int) (n21
 : Int), (true = LV l5 ∧ (LV l5 = true → (l20, n21) = turnD l5) ∧ (l20.length : Int) ≤ 40 → ((l20.length : Int) ≤ 100 ∧ allIn 0 7 l20 = true) ∧ ∀ (l22 : List UInt8), l22 = digS l20 ∧ (l22.length : Int) ≤ 100 → (↑(List.length ([116, 117, 114,
 110, 32] : List UInt8) + l22.length) : Int) ≤ 1099511627776 ∧ (↑(List.length (([116, 117, 114, 110, 32] : List UInt8) ++ l22) + List.length ([32] : List UInt8)) : Int) ≤ 1099511627776 ∧ (-1000000000 < n21 ∧ n21 < 1000000000) ∧ ∀ (l23 : List
 UInt8), l23 = decI n21 ∧ (l23.length : Int) ≤ 10 → (↑(List.length (([116, 117, 114, 110, 32] : List UInt8) ++ l22 ++ ([32] : List UInt8)) + l23.length) : Int) ≤ 1099511627776 ∧ ([116, 117, 114, 110, 32] : List UInt8) ++ l22 ++ ([32] : List
 UInt8) ++ l23 = lineS l0 ∧ (↑(List.length (([116, 117, 114, 110, 32] : List UInt8) ++ l22 ++ ([32] : List UInt8) ++ l23)) : Int) ≤ 1200) ∧ (false = LV l5 ∧ (LV l5 = true → (l20, n21) = turnD l5) ∧ (l20.length : Int) ≤ 40 → ((l20.length :
 Int) ≤ 100 ∧ allIn 0 7 l20 = true) ∧ ∀ (l24 : List UInt8), l24 = digS l20 ∧ (l24.length : Int) ≤ 100 → (↑(List.length ([116, 117, 114, 110, 32] : List UInt8) + l24.length) : Int) ≤ 1099511627776 ∧ (↑(List.length (([116, 117, 114, 110, 32] :
 List UInt8) ++ l24) + List.length ([32] : List UInt8)) : Int) ≤ 1099511627776 ∧ (-1000000000 < n21 ∧ n21 < 1000000000) ∧ ∀ (l25 : List UInt8), l25 = decI n21 ∧ (l25.length : Int) ≤ 10 → (↑(List.length (([116, 117, 114, 110, 32] : List UInt8)
 ++ l24 ++ ([32] : List UInt8)) + l25.length) : Int) ≤ 1099511627776 ∧ ([116, 117, 114, 110, 32] : List UInt8) ++ l24 ++ ([32] : List UInt8) ++ l25 = lineS l0 ∧ (↑(List.length (([116, 117, 114, 110, 32] : List UInt8) ++ l24 ++ ([32] : List
 UInt8) ++ l25)) : Int) ≤ 1200)) ∧ (¬l1 = ([116, 117, 114, 110] : List UInt8) → (l1 = ([103, 114, 101, 101, 100, 121] : List UInt8) → (l5.length : Int) ≤ 1099511627776 ∧ ∀ (l26 : List (Int × Int × Int)), l26 = greedyD l5 ∧ (l26.length : Int)
 ≤ 40 → ((l26.length : Int) ≤ 40 ∧ toksB l26) ∧ ∀ (l27 : List UInt8), l27 = [116, 111, 107, 101, 110, 115] ++ toksS l26 ∧ (l27.length : Int) ≤ 1000 → l27 = lineS l0 ∧ (l27.length : Int) ≤ 1200) ∧ (¬l1 = ([103, 114, 101, 101, 100, 121] : List
 UInt8) → (l1 = ([98, 101, 115, 116] : List UInt8) → (l5.length : Int) ≤ 1099511627776 ∧ ∀ (l28 : List (Int × Int × Int)), l28 = parseD l5 ∧ (l28.length : Int) ≤ 40 → ((l28.length : Int) ≤ 40 ∧ toksB l28) ∧ ∀ (l29 : List UInt8), l29 = [116,
 111, 107, 101, 110, 115] ++ toksS l28 ∧ (l29.length : Int) ≤ 1000 → l29 = lineS l0 ∧ (l29.length : Int) ≤ 1200) ∧ (¬l1 = ([98, 101, 115, 116] : List UInt8) → ([119, 104, 97, 116] : List UInt8) = lineS l0 ∧ (↑(List.length ([119, 104, 97, 116]
 : List UInt8)) : Int) ≤ 1200)))))))) ∧ (false = LV l5 → ([119, 104, 97, 116] : List UInt8) = lineS l0 ∧ (↑(List.length ([119, 104, 97, 116] : List UInt8)) : Int) ≤ 1200))) ∧ ((l1, l2, false) = cutS l0 → ∃ (I30 : List Int → Int → Prop), ∃
 (m31 : List Int → Int → Nat), I30 [] 0 ∧ ∀ (l32 : List Int) (n33 : Int), I30 l32 n33 → (n33 < (l2.length : Int) → 0 ≤ n33 ∧ n33 < (l2.length : Int) ∧ (-9223372036854775808 ≤ (↑(UInt8.toNat (List.getD l2 (n33.toNat) 0)) : Int) ∧
 (↑(UInt8.toNat (List.getD l2 (n33.toNat) 0)) : Int) ≤ (9223372036854775807 : Int)) ∧ (-9223372036854775808 ≤ (↑(UInt8.toNat (List.getD l2 (n33.toNat) 0)) : Int) - 48 ∧ (↑(UInt8.toNat (List.getD l2 (n33.toNat) 0)) : Int) - (48 : Int) ≤
 (9223372036854775807 : Int)) ∧ (↑(l32.length + List.length [(↑(UInt8.toNat (List.getD l2 (n33.toNat) 0)) : Int) - 48]) : Int) ≤ 1099511627776 ∧ (-9223372036854775808 ≤ n33 + 1 ∧ n33 + (1 : Int) ≤ (9223372036854775807 : Int)) ∧ I30 (l32 ++
 [(↑(UInt8.toNat (List.getD l2 (n33.toNat) 0)) : Int) - 48]) (n33 + 1) ∧ m31 (l32 ++ [(↑(UInt8.toNat (List.getD l2 (n33.toNat) 0)) : Int) - 48]) (n33 + 1) < m31 l32 n33) ∧ (¬n33 < (l2.length : Int) → ([119, 104, 97, 116] : List UInt8) = lineS
 l0 ∧ (↑(List.length ([119, 104, 97, 116] : List UInt8)) : Int) ≤ 1200))
theorem v_i_answer : V_i_answer := by
  unfold V_i_answer
  intro s hz
  refine ⟨⟨rfl, by omega⟩, fun w r => ⟨fun hc => ?_, fun hc => ?_⟩⟩
  · have hsp := cutS_some hc
    have hsl := spS_len hsp
    have hline := lineS_some hsp
    refine ⟨fun l i => 0 ≤ i ∧ i ≤ r.length ∧ l = numsOf (r.take i.toNat), fun l i => (r.length - i).toNat, ?_, ?_⟩ <;> dsimp only
    · exact ⟨by omega, by omega, rfl⟩
    rintro l i ⟨i0, i1, rfl⟩
    have hlen : (numsOf (r.take i.toNat)).length = (r.take i.toNat).length := List.length_map _
    have htl := List.length_take (i := i.toNat) (l := r)
    refine ⟨fun hi => ?_, fun hi => ?_⟩
    · have hst := numsOf_lt i0 hi
      have hb := UInt8.toNat_lt (r.getD i.toNat 0)
      exact ⟨i0, hi, by omega, by omega, by simp only [List.length_cons, List.length_nil]; omega, by omega, ⟨by omega, by omega, hst.symm⟩, by omega⟩
    rw [take_ge hi] at hlen ⊢
    refine ⟨by omega, fun hv => ?_, fun hv => ?_⟩
    · rw [if_pos hv.symm] at hline
      have hv := hv.symm
      generalize numsOf r = l at *
      unfold wordS at hline
      have hll := LV_len hv
      refine ⟨fun h1 => ?_, fun h1 => ?_⟩
      · rw [if_pos h1] at hline
        refine ⟨by omega, ?_⟩
        rintro p ⟨rfl, hp⟩
        refine ⟨⟨by omega, packB_num l⟩, ?_⟩
        rintro t ⟨rfl, ht⟩
        exact ⟨by simp only [List.length_append, List.length_cons, List.length_nil]; omega, hline.symm, by simp only [List.length_append, List.length_cons, List.length_nil]; omega⟩
      rw [if_neg h1] at hline
      refine ⟨fun h1 => ?_, fun h1 => ?_⟩
      · rw [if_pos h1] at hline
        refine ⟨by omega, ?_⟩
        rintro p ⟨rfl, hp⟩
        refine ⟨⟨by omega, sizesD_num l⟩, ?_⟩
        rintro t ⟨rfl, ht⟩
        exact ⟨by simp only [List.length_append, List.length_cons, List.length_nil]; omega, hline.symm, by simp only [List.length_append, List.length_cons, List.length_nil]; omega⟩
      rw [if_neg h1] at hline
      refine ⟨fun h1 => ?_, fun h1 => ?_⟩
      · rw [if_pos h1] at hline
        refine ⟨by omega, ?_⟩
        rintro p ⟨hpr, hp⟩
        have hin : runsB p := hpr ▸ runsD_B l
        rw [← hpr] at hline
        clear hpr
        refine ⟨fun t i => 0 ≤ i ∧ i ≤ p.length ∧ t = [114, 117, 110, 115] ++ runsS (p.take i.toNat), fun t i => (p.length - i).toNat, ?_, ?_⟩ <;> dsimp only
        · exact ⟨by omega, by omega, rfl⟩
        rintro t i ⟨i0, i1, rfl⟩
        have hlen := runsS_len (l := p.take i.toNat) (fun x hx => hin x (List.mem_of_mem_take hx))
        have htl := List.length_take (i := i.toNat) (l := p)
        have hla : ([114, 117, 110, 115] ++ runsS (p.take i.toNat)).length = 4 + (runsS (p.take i.toNat)).length := by simp; omega
        refine ⟨fun hi => ?_, fun hi => ?_⟩
        · have hx := hin _ (getD_memG (0, 0) i0 hi)
          have hst : runsS (p.take (i + 1).toNat) = runsS (p.take i.toNat) ++ runS (p.getD i.toNat (0, 0)) := flat_lt _ (0, 0) i0 hi
          obtain ⟨x1, x2, x3, x4⟩ := hx
          generalize p.getD i.toNat (0, 0) = x at *
          unfold runS at hst
          refine ⟨i0, hi, by omega, ⟨_, rfl, by have := decI_len (n := x.1) (by omega) (by omega); omega⟩, by omega, ?_⟩
          rintro d ⟨rfl, hd⟩
          refine ⟨by simp only [List.length_append, List.length_cons, List.length_nil]; omega, by simp only [List.length_append, List.length_cons, List.length_nil]; omega, ⟨_, rfl, by have := decI_len (n := x.2) (by omega) (by omega); omega⟩, by omega, ?_⟩
          rintro e ⟨rfl, he⟩
          exact ⟨by simp only [List.length_append, List.length_cons, List.length_nil]; omega, by simp only [List.length_append, List.length_cons, List.length_nil] at hla ⊢; omega, by omega, ⟨by omega, by omega, by rw [hst]; simp⟩, by omega⟩
        · rw [take_ge hi] at hlen hla ⊢
          exact ⟨hline.symm, by omega⟩
      rw [if_neg h1] at hline
      refine ⟨fun h1 => ?_, fun h1 => ?_⟩
      · rw [if_pos h1] at hline
        refine ⟨by omega, ?_⟩
        rintro p ⟨rfl, hp⟩
        refine ⟨⟨by omega, (frontD_ok l).2⟩, ?_⟩
        rintro t ⟨rfl, ht⟩
        exact ⟨by simp only [List.length_append, List.length_cons, List.length_nil]; omega, hline.symm, by simp only [List.length_append, List.length_cons, List.length_nil]; omega⟩
      rw [if_neg h1] at hline
      refine ⟨fun h1 => ?_, fun h1 => ?_⟩
      · rw [if_pos h1] at hline
        refine ⟨by omega, fun p k => ⟨?_, fun q => absurd hv (by rw [← q.1]; simp)⟩⟩
        rintro ⟨_, ht, hp⟩
        obtain ⟨k1, k2, k3, k4⟩ := turnD_ok hv
        have ht := ht hv
        rw [← ht] at hline k1 k2 k3 k4
        refine ⟨⟨by omega, k2⟩, ?_⟩
        rintro t ⟨rfl, ht⟩
        refine ⟨by simp only [List.length_append, List.length_cons, List.length_nil]; omega, by simp only [List.length_append, List.length_cons, List.length_nil]; omega, by omega, ?_⟩
        rintro d ⟨rfl, hd⟩
        exact ⟨by simp only [List.length_append, List.length_cons, List.length_nil]; omega, by rw [hline]; simp, by simp only [List.length_append, List.length_cons, List.length_nil]; omega⟩
      rw [if_neg h1] at hline
      refine ⟨fun h1 => ?_, fun h1 => ?_⟩
      · rw [if_pos h1] at hline
        refine ⟨by omega, ?_⟩
        rintro p ⟨rfl, hp⟩
        refine ⟨⟨by omega, greedyD_B l⟩, ?_⟩
        rintro t ⟨ht, htl⟩
        exact ⟨by rw [hline]; exact ht, by omega⟩
      rw [if_neg h1] at hline
      refine ⟨fun h1 => ?_, fun h1 => ?_⟩
      · rw [if_pos h1] at hline
        refine ⟨by omega, ?_⟩
        rintro p ⟨rfl, hp⟩
        refine ⟨⟨by omega, parseD_B l⟩, ?_⟩
        rintro t ⟨ht, htl⟩
        exact ⟨by rw [hline]; exact ht, by omega⟩
      rw [if_neg h1] at hline
      exact ⟨hline.symm, by simp only [List.length_append, List.length_cons, List.length_nil]; omega⟩
    · rw [← hv] at hline
      exact ⟨hline.symm, by simp only [List.length_append, List.length_cons, List.length_nil]; omega⟩
  · obtain ⟨hsp, rfl⟩ := cutS_none hc
    have hline := lineS_none hsp
    refine ⟨fun l i => i = 0, fun l i => 0, ?_, ?_⟩ <;> dsimp only
    rintro l i rfl
    refine ⟨fun hi => by simp at hi, fun _ => ⟨hline.symm, by simp only [List.length_append, List.length_cons, List.length_nil]; omega⟩⟩
def V_i_Execute : Prop :=
  ∀ (l0 : List UInt8), (l0.length : Int) ≤ 2000000 → (600 < (l0.length : Int) → ([116, 111, 111, 32, 108, 111, 110, 103, 10] : List UInt8) = execD l0 ∧ (↑(List.length ([116, 111, 111, 32, 108, 111, 110, 103, 10] : List UInt8)) : Int) ≤
 1000000) ∧ (¬600 < (l0.length : Int) → (([10] : List UInt8) = [10] ∧ (l0.length : Int) ≤ 100000) ∧ ∀ (l1 : List (List UInt8)), l1 = parts l0 → (-9223372036854775808 ≤ (l1.length : Int) - 1 ∧ (l1.length : Int) - (1 : Int) ≤
 (9223372036854775807 : Int)) ∧ (0 : Int) ≤ 0 ∧ 0 ≤ (l1.length : Int) - 1 ∧ (l1.length : Int) - 1 ≤ (l1.length : Int) ∧ ∃ (I2 : List UInt8 → Int → Prop), ∃ (m3 : List UInt8 → Int → Nat), I2 ([] : List UInt8) 0 ∧ ∀ (l4 : List UInt8) (n5 :
 Int), I2 l4 n5 → (n5 < (↑(Int.toNat ((l1.length : Int) - 1 - 0)) : Int) → 0 ≤ n5 ∧ n5 < (↑(Int.toNat ((l1.length : Int) - 1 - 0)) : Int) ∧ Int.toNat 0 + n5.toNat < l1.length ∧ (↑(List.length (List.getD l1 (Int.toNat 0 + n5.toNat) [])) : Int)
 ≤ 600 ∧ ∀ (l6 : List UInt8), l6 = lineS (List.getD l1 (Int.toNat 0 + n5.toNat) []) ∧ (l6.length : Int) ≤ 1200 → (↑(l6.length + List.length ([10] : List UInt8)) : Int) ≤ 1099511627776 ∧ (↑(l4.length + List.length (l6 ++ ([10] : List UInt8)))
 : Int) ≤ 1099511627776 ∧ (-9223372036854775808 ≤ n5 + 1 ∧ n5 + (1 : Int) ≤ (9223372036854775807 : Int)) ∧ I2 (l4 ++ (l6 ++ ([10] : List UInt8))) (n5 + 1) ∧ m3 (l4 ++ (l6 ++ ([10] : List UInt8))) (n5 + 1) < m3 l4 n5) ∧ (¬n5 < (↑(Int.toNat
 ((l1.length : Int) - 1 - 0)) : Int) → (↑(l4.length + List.length ([108, 105, 110, 101, 115, 32] : List UInt8)) : Int) ≤ 1099511627776 ∧ (-1000000000 < (↑(Int.toNat ((l1.length : Int) - 1 - 0)) : Int) ∧ (↑(Int.toNat ((l1.length : Int) - 1 -
 0)) : Int) < 1000000000) ∧ ∀ (l7 : List UInt8), l7 = decI (↑(Int.toNat ((l1.length : Int) - 1 - 0)) : Int) ∧ (l7.length : Int) ≤ 10 → (↑(List.length (l4 ++ ([108, 105, 110, 101, 115, 32] : List UInt8)) + l7.length) : Int) ≤ 1099511627776 ∧
 (↑(List.length (l4 ++ ([108, 105, 110, 101, 115, 32] : List UInt8) ++ l7) + List.length ([10] : List UInt8)) : Int) ≤ 1099511627776 ∧ l4 ++ ([108, 105, 110, 101, 115, 32] : List UInt8) ++ l7 ++ ([10] : List UInt8) = execD l0 ∧ (↑(List.length
 (l4 ++ ([108, 105, 110, 101, 115, 32] : List UInt8) ++ l7 ++ ([10] : List UInt8))) : Int) ≤ 1000000))
theorem v_i_Execute : V_i_Execute := by
  unfold V_i_Execute
  intro s hz
  refine ⟨fun h => ⟨(execD_long h).symm, by simp only [List.length_append, List.length_cons, List.length_nil]; omega⟩, fun h => ⟨⟨rfl, by omega⟩, ?_⟩⟩
  rintro P rfl
  have hex := execD_of h
  obtain ⟨L, t, hP⟩ := parts_last s
  have hlin : linesD s = L := by unfold linesD; rw [hP]; simp
  rw [hlin] at hex
  obtain ⟨q1, q2⟩ := parts_len s
  have hPl : (parts s).length = L.length + 1 := by rw [hP]; simp
  have htake : ∀ k : Nat, k ≤ L.length → (parts s).take k = L.take k := fun k hk => by rw [hP, List.take_append_of_le_length hk]
  generalize parts s = P at *
  refine ⟨by omega, by omega, by omega, by omega, ?_⟩
  have eL : ((P.length : Int) - 1 - 0).toNat = L.length := by omega
  rw [eL]
  refine ⟨fun o i => 0 ≤ i ∧ i ≤ L.length ∧ o = outS (P.take i.toNat) ∧ (o.length : Int) ≤ 1201 * i, fun o i => (L.length - i).toNat, ?_, ?_⟩ <;> dsimp only
  · exact ⟨by omega, by omega, rfl, by simp⟩
  rintro o i ⟨i0, i1, rfl, hol⟩
  have e0 : Int.toNat 0 + i.toNat = i.toNat := Nat.zero_add _
  rw [e0]
  refine ⟨fun hi => ?_, fun hi => ?_⟩
  · have hx := q2 _ (getD_memG [] i0 (show i < (P.length : Int) by omega))
    have hst : P.take (i + 1).toNat = P.take i.toNat ++ [P.getD i.toNat []] := take_lt [] i0 (by omega)
    refine ⟨i0, hi, by omega, by omega, ?_⟩
    rintro d ⟨rfl, hd⟩
    exact ⟨by simp only [List.length_append, List.length_cons, List.length_nil]; omega, by simp only [List.length_append, List.length_cons, List.length_nil]; omega, by omega, ⟨by omega, by omega, by rw [hst, outS_snoc], by simp only [List.length_append, List.length_cons, List.length_nil]; omega⟩, by omega⟩
  · have hi2 : i = L.length := by omega
    rw [htake i.toNat (by omega), List.take_of_length_le (by omega)] at hol ⊢
    refine ⟨by simp only [List.length_append, List.length_cons, List.length_nil]; omega, by omega, ?_⟩
    rintro d ⟨rfl, hd⟩
    exact ⟨by simp only [List.length_append, List.length_cons, List.length_nil]; omega, by simp only [List.length_append, List.length_cons, List.length_nil]; omega, by rw [hex]; simp [endS], by simp only [List.length_append, List.length_cons, List.length_nil]; omega⟩
def V_s_l51List : Prop :=
  ∀ (l0 : List UInt8), (l0.length : Int) ≤ 1000 → ∃ (I1 : List Int → Int → Prop), ∃ (m2 : List Int → Int → Nat), I1 [] 0 ∧ ∀ (l3 : List Int) (n4 : Int), I1 l3 n4 → (n4 < (l0.length : Int) → 0 ≤ n4 ∧ n4 < (l0.length : Int) ∧ ((↑(UInt8.toNat
 (List.getD l0 (n4.toNat) 0)) : Int) < 48 → false = LV (numsOf l0) ∧ (false = true → [] = numsOf l0) ∧ (↑0 : Int) ≤ 1000) ∧ (¬(↑(UInt8.toNat (List.getD l0 (n4.toNat) 0)) : Int) < 48 → 0 ≤ n4 ∧ n4 < (l0.length : Int) ∧ (55 < (↑(UInt8.toNat
 (List.getD l0 (n4.toNat) 0)) : Int) → false = LV (numsOf l0) ∧ (false = true → [] = numsOf l0) ∧ (↑0 : Int) ≤ 1000) ∧ (¬55 < (↑(UInt8.toNat (List.getD l0 (n4.toNat) 0)) : Int) → 0 ≤ n4 ∧ n4 < (l0.length : Int) ∧ (0 ≤ (↑(UInt8.toNat
 (List.getD l0 (n4.toNat) 0)) : Int) - 48 ∧ (↑(UInt8.toNat (List.getD l0 (n4.toNat) 0)) : Int) - (48 : Int) ≤ 255) ∧ (-9223372036854775808 ≤ (↑(UInt8.toNat (List.getD l0 (n4.toNat) 0)) : Int) - 48 ∧ (↑(UInt8.toNat (List.getD l0 (n4.toNat) 0))
 : Int) - (48 : Int) ≤ (9223372036854775807 : Int)) ∧ (↑(l3.length + List.length [(↑(UInt8.toNat (List.getD l0 (n4.toNat) 0)) : Int) - 48]) : Int) ≤ 1099511627776 ∧ (-9223372036854775808 ≤ n4 + 1 ∧ n4 + (1 : Int) ≤ (9223372036854775807 :
 Int)) ∧ I1 (l3 ++ [(↑(UInt8.toNat (List.getD l0 (n4.toNat) 0)) : Int) - 48]) (n4 + 1) ∧ m2 (l3 ++ [(↑(UInt8.toNat (List.getD l0 (n4.toNat) 0)) : Int) - 48]) (n4 + 1) < m2 l3 n4))) ∧ (¬n4 < (l0.length : Int) → (l3.length : Int) ≤
 1099511627776 ∧ (true = LV l3 → true = LV (numsOf l0) ∧ (true = true → l3 = numsOf l0) ∧ (l3.length : Int) ≤ 1000) ∧ (false = LV l3 → false = LV (numsOf l0) ∧ (false = true → l3 = numsOf l0) ∧ (l3.length : Int) ≤ 1000))
theorem v_s_l51List : V_s_l51List := by
  unfold V_s_l51List
  intro s hz
  refine ⟨fun r i => 0 ≤ i ∧ i ≤ s.length ∧ r = numsOf (s.take i.toNat), fun r i => (s.length - i).toNat, ?_, ?_⟩ <;> dsimp only
  · exact ⟨by omega, by omega, rfl⟩
  rintro r i ⟨i0, i1, rfl⟩
  have hlen : (numsOf (s.take i.toNat)).length = (s.take i.toNat).length := List.length_map _
  have htl := List.length_take (i := i.toNat) (l := s)
  refine ⟨fun hi => ⟨i0, hi, fun hb => ⟨(numsOf_bad i0 hi (.inl hb)).symm, fun q => (by cases q), by omega⟩, fun h48 => ⟨i0, hi, fun hb => ⟨(numsOf_bad i0 hi (.inr hb)).symm, fun q => (by cases q), by omega⟩, fun h55 => ?_⟩⟩, fun hi => ?_⟩
  · have hst := numsOf_lt i0 hi
    exact ⟨i0, hi, by omega, by omega, by simp only [List.length_cons, List.length_nil]; omega, by omega, ⟨by omega, by omega, hst.symm⟩, by omega⟩
  · rw [take_ge hi] at hlen ⊢
    exact ⟨by omega, fun h => ⟨h, fun _ => rfl, by omega⟩, fun h => ⟨h, fun q => (by cases q), by omega⟩⟩
def V_s_l51Digits : Prop :=
  ∀ (l0 : List Int), (l0.length : Int) ≤ 100 ∧ allIn 0 7 l0 = true → ∃ (I1 : List UInt8 → Int → Prop), ∃ (m2 : List UInt8 → Int → Nat), I1 ([] : List UInt8) 0 ∧ ∀ (l3 : List UInt8) (n4 : Int), I1 l3 n4 → (n4 < (l0.length : Int) → 0 ≤ n4 ∧ n4 <
 (l0.length : Int) ∧ (-1000000000 < List.getD l0 (n4.toNat) 0 ∧ List.getD l0 (n4.toNat) (0 : Int) < 1000000000) ∧ ∀ (l5 : List UInt8), l5 = decI (List.getD l0 (n4.toNat) 0) ∧ (l5.length : Int) ≤ 10 → (↑(l3.length + l5.length) : Int) ≤
 1099511627776 ∧ (-9223372036854775808 ≤ n4 + 1 ∧ n4 + (1 : Int) ≤ (9223372036854775807 : Int)) ∧ I1 (l3 ++ l5) (n4 + 1) ∧ m2 (l3 ++ l5) (n4 + 1) < m2 l3 n4) ∧ (¬n4 < (l0.length : Int) → l3 = digS l0 ∧ (l3.length : Int) ≤ 100)
theorem v_s_l51Digits : V_s_l51Digits := by
  unfold V_s_l51Digits
  rintro l ⟨hl, hin⟩
  refine ⟨fun s i => 0 ≤ i ∧ i ≤ l.length ∧ s = digS (l.take i.toNat), fun s i => (l.length - i).toNat, ?_, ?_⟩ <;> dsimp only
  · exact ⟨by omega, by omega, rfl⟩
  rintro s i ⟨i0, i1, rfl⟩
  have hlen : (digS (l.take i.toNat)).length = (l.take i.toNat).length := List.length_map _
  have htl := List.length_take (i := i.toNat) (l := l)
  refine ⟨fun hi => ?_, fun hi => ?_⟩
  · have hx := allIn_iff.1 hin _ (getD_memG 0 i0 hi)
    have hst := digS_lt i0 hi
    generalize l.getD i.toNat 0 = x at *
    refine ⟨i0, hi, by omega, ?_⟩
    rintro d ⟨rfl, hd⟩
    exact ⟨by omega, by omega, ⟨by omega, by omega, by rw [hst, decI_small (by omega) (by omega), show (48 + x).toNat = 48 + x.toNat by omega]⟩, by omega⟩
  · rw [take_ge hi] at hlen ⊢
    exact ⟨rfl, by omega⟩
def V_s_l51Numbers : Prop :=
  ∀ (l0 : List Int), (l0.length : Int) ≤ 100 ∧ allIn (-1000000) 1000000 l0 = true → ∃ (I1 : List UInt8 → Int → Prop), ∃ (m2 : List UInt8 → Int → Nat), I1 ([] : List UInt8) 0 ∧ ∀ (l3 : List UInt8) (n4 : Int), I1 l3 n4 → (n4 < (l0.length : Int)
 → (↑(l3.length + List.length ([32] : List UInt8)) : Int) ≤ 1099511627776 ∧ 0 ≤ n4 ∧ n4 < (l0.length : Int) ∧ (-1000000000 < List.getD l0 (n4.toNat) 0 ∧ List.getD l0 (n4.toNat) (0 : Int) < 1000000000) ∧ ∀ (l5 : List UInt8), l5 = decI
 (List.getD l0 (n4.toNat) 0) ∧ (l5.length : Int) ≤ 10 → (↑(List.length (l3 ++ ([32] : List UInt8)) + l5.length) : Int) ≤ 1099511627776 ∧ (-9223372036854775808 ≤ n4 + 1 ∧ n4 + (1 : Int) ≤ (9223372036854775807 : Int)) ∧ I1 (l3 ++ ([32] : List
 UInt8) ++ l5) (n4 + 1) ∧ m2 (l3 ++ ([32] : List UInt8) ++ l5) (n4 + 1) < m2 l3 n4) ∧ (¬n4 < (l0.length : Int) → l3 = numsS l0 ∧ (l3.length : Int) ≤ 1100)
theorem v_s_l51Numbers : V_s_l51Numbers := by
  unfold V_s_l51Numbers
  rintro l ⟨hl, hin⟩
  refine ⟨fun s i => 0 ≤ i ∧ i ≤ l.length ∧ s = numsS (l.take i.toNat), fun s i => (l.length - i).toNat, ?_, ?_⟩ <;> dsimp only
  · exact ⟨by omega, by omega, rfl⟩
  rintro s i ⟨i0, i1, rfl⟩
  have hlen := numsS_len (allIn_take i.toNat hin)
  have htl := List.length_take (i := i.toNat) (l := l)
  refine ⟨fun hi => ?_, fun hi => ?_⟩
  · have hx := allIn_iff.1 hin _ (getD_memG 0 i0 hi)
    have hst : numsS (l.take (i + 1).toNat) = numsS (l.take i.toNat) ++ 32 :: decI (l.getD i.toNat 0) := flat_lt _ 0 i0 hi
    refine ⟨by simp only [List.length_cons, List.length_nil]; omega, i0, hi, by omega, ?_⟩
    rintro d ⟨rfl, hd⟩
    exact ⟨by simp only [List.length_append, List.length_cons, List.length_nil]; omega, by omega, ⟨by omega, by omega, by rw [hst, List.append_assoc]; rfl⟩, by omega⟩
  · rw [take_ge hi] at hlen ⊢
    exact ⟨rfl, by omega⟩
def V_s_l51Tokens : Prop :=
  ∀ (l0 : List (Int × Int × Int)), (l0.length : Int) ≤ 40 ∧ toksB l0 → ∃ (I1 : List UInt8 → Int → Prop), ∃ (m2 : List UInt8 → Int → Nat), I1 ([] : List UInt8) 0 ∧ ∀ (l3 : List UInt8) (n4 : Int), I1 l3 n4 → (n4 < (l0.length : Int) → 0 ≤ n4 ∧ n4
 < (l0.length : Int) ∧ (Prod.fst (Prod.snd (List.getD l0 (n4.toNat) (0, 0, 0))) = 0 → (↑(l3.length + List.length ([32] : List UInt8)) : Int) ≤ 1099511627776 ∧ 0 ≤ n4 ∧ n4 < (l0.length : Int) ∧ (-1000000000 < Prod.fst (List.getD l0 (n4.toNat)
 (0, 0, 0)) ∧ Prod.fst (List.getD l0 (n4.toNat) (0, 0, 0)) < 1000000000) ∧ ∀ (l5 : List UInt8), l5 = decI (Prod.fst (List.getD l0 (n4.toNat) (0, 0, 0))) ∧ (l5.length : Int) ≤ 10 → (↑(List.length (l3 ++ ([32] : List UInt8)) + l5.length) : Int)
 ≤ 1099511627776 ∧ (-9223372036854775808 ≤ n4 + 1 ∧ n4 + (1 : Int) ≤ (9223372036854775807 : Int)) ∧ I1 (l3 ++ ([32] : List UInt8) ++ l5) (n4 + 1) ∧ m2 (l3 ++ ([32] : List UInt8) ++ l5) (n4 + 1) < m2 l3 n4) ∧ (¬Prod.fst (Prod.snd (List.getD l0
 (n4.toNat) (0, 0, 0))) = 0 → (↑(l3.length + List.length ([32] : List UInt8)) : Int) ≤ 1099511627776 ∧ 0 ≤ n4 ∧ n4 < (l0.length : Int) ∧ (∃ (l : List UInt8), l = decI (Prod.fst (Prod.snd (List.getD l0 (n4.toNat) (0, 0, 0)))) ∧ (↑(List.length
 l) : Int) ≤ 10) ∧ (-1000000000 < Prod.fst (Prod.snd (List.getD l0 (n4.toNat) (0, 0, 0))) ∧ Prod.fst (Prod.snd (List.getD l0 (n4.toNat) (0, 0, 0))) < 1000000000) ∧ ∀ (l6 : List UInt8), l6 = decI (Prod.fst (Prod.snd (List.getD l0 (n4.toNat)
 (0, 0, 0)))) ∧ (l6.length : Int) ≤ 10 → (↑(List.length (l3 ++ ([32] : List UInt8)) + l6.length) : Int) ≤ 1099511627776 ∧ (↑(List.length (l3 ++ ([32] : List UInt8) ++ l6) + List.length ([58] : List UInt8)) : Int) ≤ 1099511627776 ∧ 0 ≤ n4 ∧ n4
 < (l0.length : Int) ∧ (∃ (l : List UInt8), l = decI (Prod.snd (Prod.snd (List.getD l0 (n4.toNat) (0, 0, 0)))) ∧ (↑(List.length l) : Int) ≤ 10) ∧ (-1000000000 < Prod.snd (Prod.snd (List.getD l0 (n4.toNat) (0, 0, 0))) ∧ Prod.snd (Prod.snd
 (List.getD l0 (n4.toNat) (0, 0, 0))) < 1000000000) ∧ ∀ (l7 : List UInt8), l7 = decI (Prod.snd (Prod.snd (List.getD l0 (n4.toNat) (0, 0, 0)))) ∧ (l7.length : Int) ≤ 10 → (↑(List.length (l3 ++ ([32] : List UInt8) ++ l6 ++ ([58] : List UInt8))
 + l7.length) : Int) ≤ 1099511627776 ∧ (-9223372036854775808 ≤ n4 + 1 ∧ n4 + (1 : Int) ≤ (9223372036854775807 : Int)) ∧ I1 (l3 ++ ([32] : List UInt8) ++ l6 ++ ([58] : List UInt8) ++ l7) (n4 + 1) ∧ m2 (l3 ++ ([32] : List UInt8) ++ l6 ++ ([58]
 : List UInt8) ++ l7) (n4 + 1) < m2 l3 n4)) ∧ (¬n4 < (l0.length : Int) → l3 = toksS l0 ∧ (l3.length : Int) ≤ 994)
theorem v_s_l51Tokens : V_s_l51Tokens := by
  unfold V_s_l51Tokens
  rintro l ⟨hl, hin⟩
  refine ⟨fun s i => 0 ≤ i ∧ i ≤ l.length ∧ s = toksS (l.take i.toNat), fun s i => (l.length - i).toNat, ?_, ?_⟩ <;> dsimp only
  · exact ⟨by omega, by omega, rfl⟩
  rintro s i ⟨i0, i1, rfl⟩
  have hlen := toksS_len (l := l.take i.toNat) (fun x hx => hin x (List.mem_of_mem_take hx))
  have htl := List.length_take (i := i.toNat) (l := l)
  refine ⟨fun hi => ⟨i0, hi, ?_⟩, fun hi => ?_⟩
  · have hx := hin _ (getD_memG (0, 0, 0) i0 hi)
    have hst : toksS (l.take (i + 1).toNat) = toksS (l.take i.toNat) ++ tokS (l.getD i.toNat (0, 0, 0)) := flat_lt _ (0, 0, 0) i0 hi
    obtain ⟨x1, x2, x3, x4, x5, x6, x7⟩ := hx
    generalize l.getD i.toNat (0, 0, 0) = x at *
    unfold tokS at hst
    refine ⟨fun h => ?_, fun h => ?_⟩
    · rw [if_pos (x7.1 h)] at hst
      refine ⟨by simp only [List.length_cons, List.length_nil]; omega, i0, hi, by omega, ?_⟩
      rintro d ⟨rfl, hd⟩
      exact ⟨by simp only [List.length_append, List.length_cons, List.length_nil]; omega, by omega, ⟨by omega, by omega, by rw [hst, List.append_assoc]; rfl⟩, by omega⟩
    · rw [if_neg (fun q => h (x7.2 q))] at hst
      refine ⟨by simp only [List.length_cons, List.length_nil]; omega, i0, hi, ⟨_, rfl, by have := decI_len (n := x.2.1) (by omega) (by omega); omega⟩, by omega, ?_⟩
      rintro d ⟨rfl, hd⟩
      refine ⟨by simp only [List.length_append, List.length_cons, List.length_nil]; omega, by simp only [List.length_append, List.length_cons, List.length_nil]; omega, i0, hi, ⟨_, rfl, by have := decI_len (n := x.2.2) (by omega) (by omega); omega⟩, by omega, ?_⟩
      rintro e ⟨rfl, he⟩
      exact ⟨by simp only [List.length_append, List.length_cons, List.length_nil]; omega, by omega, ⟨by omega, by omega, by rw [hst]; simp⟩, by omega⟩
  · rw [take_ge hi] at hlen ⊢
    exact ⟨rfl, by omega⟩
def V_s_l51Runs : Prop :=
  ∀ (l0 : List (Int × Int)), (l0.length : Int) ≤ 40 ∧ runsB l0 → ∃ (I1 : List UInt8 → Int → Prop), ∃ (m2 : List UInt8 → Int → Nat), I1 ([] : List UInt8) 0 ∧ ∀ (l3 : List UInt8) (n4 : Int), I1 l3 n4 → (n4 < (l0.length : Int) → (↑(l3.length +
 List.length ([32] : List UInt8)) : Int) ≤ 1099511627776 ∧ 0 ≤ n4 ∧ n4 < (l0.length : Int) ∧ (∃ (l : List UInt8), l = decI (Prod.fst (List.getD l0 (n4.toNat) (0, 0))) ∧ (↑(List.length l) : Int) ≤ 10) ∧ (-1000000000 < Prod.fst (List.getD l0
 (n4.toNat) (0, 0)) ∧ Prod.fst (List.getD l0 (n4.toNat) (0, 0)) < 1000000000) ∧ ∀ (l5 : List UInt8), l5 = decI (Prod.fst (List.getD l0 (n4.toNat) (0, 0))) ∧ (l5.length : Int) ≤ 10 → (↑(List.length (l3 ++ ([32] : List UInt8)) + l5.length) :
 Int) ≤ 1099511627776 ∧ (↑(List.length (l3 ++ ([32] : List UInt8) ++ l5) + List.length ([42] : List UInt8)) : Int) ≤ 1099511627776 ∧ 0 ≤ n4 ∧ n4 < (l0.length : Int) ∧ (∃ (l : List UInt8), l = decI (Prod.snd (List.getD l0 (n4.toNat) (0, 0))) ∧
 (↑(List.length l) : Int) ≤ 10) ∧ (-1000000000 < Prod.snd (List.getD l0 (n4.toNat) (0, 0)) ∧ Prod.snd (List.getD l0 (n4.toNat) (0, 0)) < 1000000000) ∧ ∀ (l6 : List UInt8), l6 = decI (Prod.snd (List.getD l0 (n4.toNat) (0, 0))) ∧ (l6.length :
 Int) ≤ 10 → (↑(List.length (l3 ++ ([32] : List UInt8) ++ l5 ++ ([42] : List UInt8)) + l6.length) : Int) ≤ 1099511627776 ∧ (-9223372036854775808 ≤ n4 + 1 ∧ n4 + (1 : Int) ≤ (9223372036854775807 : Int)) ∧ I1 (l3 ++ ([32] : List UInt8) ++ l5 ++
 ([42] : List UInt8) ++ l6) (n4 + 1) ∧ m2 (l3 ++ ([32] : List UInt8) ++ l5 ++ ([42] : List UInt8) ++ l6) (n4 + 1) < m2 l3 n4) ∧ (¬n4 < (l0.length : Int) → l3 = runsS l0 ∧ (l3.length : Int) ≤ 900)
theorem v_s_l51Runs : V_s_l51Runs := by
  unfold V_s_l51Runs
  rintro l ⟨hl, hin⟩
  refine ⟨fun s i => 0 ≤ i ∧ i ≤ l.length ∧ s = runsS (l.take i.toNat), fun s i => (l.length - i).toNat, ?_, ?_⟩ <;> dsimp only
  · exact ⟨by omega, by omega, rfl⟩
  rintro s i ⟨i0, i1, rfl⟩
  have hlen := runsS_len (l := l.take i.toNat) (fun x hx => hin x (List.mem_of_mem_take hx))
  have htl := List.length_take (i := i.toNat) (l := l)
  refine ⟨fun hi => ?_, fun hi => ?_⟩
  · have hx := hin _ (getD_memG (0, 0) i0 hi)
    have hst : runsS (l.take (i + 1).toNat) = runsS (l.take i.toNat) ++ runS (l.getD i.toNat (0, 0)) := flat_lt _ (0, 0) i0 hi
    obtain ⟨x1, x2, x3, x4⟩ := hx
    generalize l.getD i.toNat (0, 0) = x at *
    unfold runS at hst
    refine ⟨by simp only [List.length_cons, List.length_nil]; omega, i0, hi, ⟨_, rfl, by have := decI_len (n := x.1) (by omega) (by omega); omega⟩, by omega, ?_⟩
    rintro d ⟨rfl, hd⟩
    refine ⟨by simp only [List.length_append, List.length_cons, List.length_nil]; omega, by simp only [List.length_append, List.length_cons, List.length_nil]; omega, i0, hi, ⟨_, rfl, by have := decI_len (n := x.2) (by omega) (by omega); omega⟩, by omega, ?_⟩
    rintro e ⟨rfl, he⟩
    exact ⟨by simp only [List.length_append, List.length_cons, List.length_nil]; omega, by omega, ⟨by omega, by omega, by rw [hst]; simp⟩, by omega⟩
  · rw [take_ge hi] at hlen ⊢
    exact ⟨rfl, by omega⟩
def V_s_l51Word : Prop :=
  ∀ (l0 : List UInt8) (l1 : List Int), (l0.length : Int) ≤ 600 ∧ LV l1 = true → (l0 = ([112, 97, 99, 107] : List UInt8) → (l1.length : Int) ≤ 1099511627776 ∧ ∀ (l2 : List Int), l2 = packB l1 ∧ (l2.length : Int) ≤ 82 → ((l2.length : Int) ≤ 100
 ∧ allIn (-1000000) 1000000 l2 = true) ∧ ∀ (l3 : List UInt8), l3 = numsS l2 ∧ (l3.length : Int) ≤ 1100 → (↑(List.length ([98, 108, 111, 99, 107] : List UInt8) + l3.length) : Int) ≤ 1099511627776 ∧ (↑(List.length (([98, 108, 111, 99, 107] :
 List UInt8) ++ l3) + List.length ([10] : List UInt8)) : Int) ≤ 1099511627776 ∧ ([98, 108, 111, 99, 107] : List UInt8) ++ l3 ++ ([10] : List UInt8) = wordS l0 l1 ++ [10] ∧ (↑(List.length (([98, 108, 111, 99, 107] : List UInt8) ++ l3 ++ ([10]
 : List UInt8))) : Int) ≤ 1201) ∧ (¬l0 = ([112, 97, 99, 107] : List UInt8) → (l0 = ([115, 105, 122, 101, 115] : List UInt8) → (l1.length : Int) ≤ 1099511627776 ∧ ∀ (l4 : List Int), l4 = sizesD l1 ∧ (l4.length : Int) ≤ 4 → ((l4.length : Int) ≤
 100 ∧ allIn (-1000000) 1000000 l4 = true) ∧ ∀ (l5 : List UInt8), l5 = numsS l4 ∧ (l5.length : Int) ≤ 1100 → (↑(List.length ([115, 105, 122, 101, 115] : List UInt8) + l5.length) : Int) ≤ 1099511627776 ∧ (↑(List.length (([115, 105, 122, 101,
 115] : List UInt8) ++ l5) + List.length ([10] : List UInt8)) : Int) ≤ 1099511627776 ∧ ([115, 105, 122, 101, 115] : List UInt8) ++ l5 ++ ([10] : List UInt8) = wordS l0 l1 ++ [10] ∧ (↑(List.length (([115, 105, 122, 101, 115] : List UInt8) ++
 l5 ++ ([10] : List UInt8))) : Int) ≤ 1201) ∧ (¬l0 = ([115, 105, 122, 101, 115] : List UInt8) → (l0 = ([114, 117, 110, 115] : List UInt8) → (l1.length : Int) ≤ 1099511627776 ∧ ∀ (l6 : List (Int × Int)), l6 = runsD l1 ∧ (l6.length : Int) ≤ 40
 → ((l6.length : Int) ≤ 40 ∧ runsB l6) ∧ ∀ (l7 : List UInt8), l7 = runsS l6 ∧ (l7.length : Int) ≤ 900 → (↑(List.length ([114, 117, 110, 115] : List UInt8) + l7.length) : Int) ≤ 1099511627776 ∧ (↑(List.length (([114, 117, 110, 115] : List
 UInt8) ++ l7) + List.length ([10] : List UInt8)) : Int) ≤ 1099511627776 ∧ ([114, 117, 110, 115] : List UInt8) ++ l7 ++ ([10] : List UInt8) = wordS l0 l1 ++ [10] ∧ (↑(List.length (([114, 117, 110, 115] : List UInt8) ++ l7 ++ ([10] : List
 UInt8))) : Int) ≤ 1201) ∧ (¬l0 = ([114, 117, 110, 115] : List UInt8) → (l0 = ([102, 114, 111, 110, 116] : List UInt8) → (l1.length : Int) ≤ 1099511627776 ∧ ∀ (l8 : List Int), l8 = frontD l1 ∧ (l8.length : Int) ≤ 40 → ((l8.length : Int) ≤ 100
 ∧ allIn 0 7 l8 = true) ∧ ∀ (l9 : List UInt8), l9 = digS l8 ∧ (l9.length : Int) ≤ 100 → (↑(List.length ([102, 114, 111, 110, 116, 32] : List UInt8) + l9.length) : Int) ≤ 1099511627776 ∧ (↑(List.length (([102, 114, 111, 110, 116, 32] : List
 UInt8) ++ l9) + List.length ([10] : List UInt8)) : Int) ≤ 1099511627776 ∧ ([102, 114, 111, 110, 116, 32] : List UInt8) ++ l9 ++ ([10] : List UInt8) = wordS l0 l1 ++ [10] ∧ (↑(List.length (([102, 114, 111, 110, 116, 32] : List UInt8) ++ l9 ++
 ([10] : List UInt8))) : Int) ≤ 1201) ∧ (¬l0 = ([102, 114, 111, 110, 116] : List UInt8) → (l0 = ([116, 117, 114, 110] : List UInt8) → (l1.length : Int) ≤ 1099511627776 ∧ ∀ (l10 : List Int) (n11 : Int), (true = LV l1 ∧ (LV l1 = true → (l10,
 n11) = turnD l1) ∧ (l10.length : Int) ≤ 40 → ((l10.length : Int) ≤ 100 ∧ allIn 0 7 l10 = true) ∧ ∀ (l12 : List UInt8), l12 = digS l10 ∧ (l12.length : Int) ≤ 100 → (↑(List.length ([116, 117, 114, 110, 32] : List UInt8) + l12.length) : Int) ≤
 1099511627776 ∧ (↑(List.length (([116, 117, 114, 110, 32] : List UInt8) ++ l12) + List.length ([32] : List UInt8)) : Int) ≤ 1099511627776 ∧ (-1000000000 < n11 ∧ n11 < 1000000000) ∧ ∀ (l13 : List UInt8), l13 = decI n11 ∧ (l13.length : Int) ≤
 10 → (↑(List.length (([116, 117, 114, 110, 32] : List UInt8) ++ l12 ++ ([32] : List UInt8)) + l13.length) : Int) ≤ 1099511627776 ∧ (↑(List.length (([116, 117, 114, 110, 32] : List UInt8) ++ l12 ++ ([32] : List UInt8) ++ l13) + List.length
 ([10] : List UInt8)) : Int) ≤ 1099511627776 ∧ ([116, 117, 114, 110, 32] : List UInt8) ++ l12 ++ ([32] : List UInt8) ++ l13 ++ ([10] : List UInt8) = wordS l0 l1 ++ [10] ∧ (↑(List.length (([116, 117, 114, 110, 32] : List UInt8) ++ l12 ++ ([32]
 : List UInt8) ++ l13 ++ ([10] : List UInt8))) : Int) ≤ 1201) ∧ (false = LV l1 ∧ (LV l1 = true → (l10, n11) = turnD l1) ∧ (l10.length : Int) ≤ 40 → ((l10.length : Int) ≤ 100 ∧ allIn 0 7 l10 = true) ∧ ∀ (l14 : List UInt8), l14 = digS l10 ∧
 (l14.length : Int) ≤ 100 → (↑(List.length ([116, 117, 114, 110, 32] : List UInt8) + l14.length) : Int) ≤ 1099511627776 ∧ (↑(List.length (([116, 117, 114, 110, 32] : List UInt8) ++ l14) + List.length ([32] : List UInt8)) : Int) ≤
 1099511627776 ∧ (-1000000000 < n11 ∧ n11 < 1000000000) ∧ ∀ (l15 : List UInt8), l15 = decI n11 ∧ (l15.length : Int) ≤ 10 → (↑(List.length (([116, 117, 114, 110, 32] : List UInt8) ++ l14 ++ ([32] : List UInt8)) + l15.length) : Int) ≤
 1099511627776 ∧ (↑(List.length (([116, 117, 114, 110, 32] : List UInt8) ++ l14 ++ ([32] : List UInt8) ++ l15) + List.length ([10] : List UInt8)) : Int) ≤ 1099511627776 ∧ ([116, 117, 114, 110, 32] : List UInt8) ++ l14 ++ ([32] : List UInt8)
 ++ l15 ++ ([10] : List UInt8) = wordS l0 l1 ++ [10] ∧ (↑(List.length (([116, 117, 114, 110, 32] : List UInt8) ++ l14 ++ ([32] : List UInt8) ++ l15 ++ ([10] : List UInt8))) : Int) ≤ 1201)) ∧ (¬l0 = ([116, 117, 114, 110] : List UInt8) → (l0 =
 ([103, 114, 101, 101, 100, 121] : List UInt8) → (l1.length : Int) ≤ 1099511627776 ∧ ∀ (l16 : List (Int × Int × Int)), l16 = greedyD l1 ∧ (l16.length : Int) ≤ 40 → ((l16.length : Int) ≤ 40 ∧ toksB l16) ∧ ∀ (l17 : List UInt8), l17 = toksS l16
 ∧ (l17.length : Int) ≤ 994 → (↑(List.length ([116, 111, 107, 101, 110, 115] : List UInt8) + l17.length) : Int) ≤ 1099511627776 ∧ (↑(List.length (([116, 111, 107, 101, 110, 115] : List UInt8) ++ l17) + List.length ([10] : List UInt8)) : Int)
 ≤ 1099511627776 ∧ ([116, 111, 107, 101, 110, 115] : List UInt8) ++ l17 ++ ([10] : List UInt8) = wordS l0 l1 ++ [10] ∧ (↑(List.length (([116, 111, 107, 101, 110, 115] : List UInt8) ++ l17 ++ ([10] : List UInt8))) : Int) ≤ 1201) ∧ (¬l0 =
 ([103, 114, 101, 101, 100, 121] : List UInt8) → (l0 = ([98, 101, 115, 116] : List UInt8) → (l1.length : Int) ≤ 1099511627776 ∧ ∀ (l18 : List (Int × Int × Int)), l18 = parseD l1 ∧ (l18.length : Int) ≤ 40 → ((l18.length : Int) ≤ 40 ∧ toksB
 l18) ∧ ∀ (l19 : List UInt8), l19 = toksS l18 ∧ (l19.length : Int) ≤ 994 → (↑(List.length ([116, 111, 107, 101, 110, 115] : List UInt8) + l19.length) : Int) ≤ 1099511627776 ∧ (↑(List.length (([116, 111, 107, 101, 110, 115] : List UInt8) ++
 l19) + List.length ([10] : List UInt8)) : Int) ≤ 1099511627776 ∧ ([116, 111, 107, 101, 110, 115] : List UInt8) ++ l19 ++ ([10] : List UInt8) = wordS l0 l1 ++ [10] ∧ (↑(List.length (([116, 111, 107, 101, 110, 115] : List UInt8) ++ l19 ++
 ([10] : List UInt8))) : Int) ≤ 1201) ∧ (¬l0 = ([98, 101, 115, 116] : List UInt8) → ([119, 104, 97, 116, 10] : List UInt8) = wordS l0 l1 ++ [10] ∧ (↑(List.length ([119, 104, 97, 116, 10] : List UInt8)) : Int) ≤ 1201)))))))
theorem v_s_l51Word : V_s_l51Word := by
  unfold V_s_l51Word
  rintro w l ⟨hw, hv⟩
  have hll := LV_len hv
  obtain ⟨o, hline⟩ : ∃ o, wordS w l = o := ⟨_, rfl⟩
  rw [hline]
  unfold wordS at hline
  refine ⟨fun h1 => ?_, fun h1 => ?_⟩
  · rw [if_pos h1] at hline
    refine ⟨by omega, ?_⟩
    rintro p ⟨rfl, hp⟩
    refine ⟨⟨by omega, packB_num l⟩, ?_⟩
    rintro t ⟨rfl, ht⟩
    exact ⟨by simp only [List.length_append, List.length_cons, List.length_nil]; omega, by simp only [List.length_append, List.length_cons, List.length_nil]; omega, by rw [← hline], by simp only [List.length_append, List.length_cons, List.length_nil]; omega⟩
  rw [if_neg h1] at hline
  refine ⟨fun h1 => ?_, fun h1 => ?_⟩
  · rw [if_pos h1] at hline
    refine ⟨by omega, ?_⟩
    rintro p ⟨rfl, hp⟩
    refine ⟨⟨by omega, sizesD_num l⟩, ?_⟩
    rintro t ⟨rfl, ht⟩
    exact ⟨by simp only [List.length_append, List.length_cons, List.length_nil]; omega, by simp only [List.length_append, List.length_cons, List.length_nil]; omega, by rw [← hline], by simp only [List.length_append, List.length_cons, List.length_nil]; omega⟩
  rw [if_neg h1] at hline
  refine ⟨fun h1 => ?_, fun h1 => ?_⟩
  · rw [if_pos h1] at hline
    refine ⟨by omega, ?_⟩
    rintro p ⟨rfl, hp⟩
    refine ⟨⟨by omega, runsD_B l⟩, ?_⟩
    rintro t ⟨rfl, ht⟩
    exact ⟨by simp only [List.length_append, List.length_cons, List.length_nil]; omega, by simp only [List.length_append, List.length_cons, List.length_nil]; omega, by rw [← hline], by simp only [List.length_append, List.length_cons, List.length_nil]; omega⟩
  rw [if_neg h1] at hline
  refine ⟨fun h1 => ?_, fun h1 => ?_⟩
  · rw [if_pos h1] at hline
    refine ⟨by omega, ?_⟩
    rintro p ⟨rfl, hp⟩
    refine ⟨⟨by omega, (frontD_ok l).2⟩, ?_⟩
    rintro t ⟨rfl, ht⟩
    exact ⟨by simp only [List.length_append, List.length_cons, List.length_nil]; omega, by simp only [List.length_append, List.length_cons, List.length_nil]; omega, by rw [← hline], by simp only [List.length_append, List.length_cons, List.length_nil]; omega⟩
  rw [if_neg h1] at hline
  refine ⟨fun h1 => ?_, fun h1 => ?_⟩
  · rw [if_pos h1] at hline
    refine ⟨by omega, fun p k => ⟨?_, fun q => absurd hv (by rw [← q.1]; simp)⟩⟩
    rintro ⟨_, ht, hp⟩
    obtain ⟨k1, k2, k3, k4⟩ := turnD_ok hv
    have ht := ht hv
    rw [← ht] at hline k1 k2 k3 k4
    refine ⟨⟨by omega, k2⟩, ?_⟩
    rintro t ⟨rfl, ht⟩
    refine ⟨by simp only [List.length_append, List.length_cons, List.length_nil]; omega, by simp only [List.length_append, List.length_cons, List.length_nil]; omega, by omega, ?_⟩
    rintro d ⟨rfl, hd⟩
    exact ⟨by simp only [List.length_append, List.length_cons, List.length_nil]; omega, by simp only [List.length_append, List.length_cons, List.length_nil]; omega, by rw [← hline]; simp, by simp only [List.length_append, List.length_cons, List.length_nil]; omega⟩
  rw [if_neg h1] at hline
  refine ⟨fun h1 => ?_, fun h1 => ?_⟩
  · rw [if_pos h1] at hline
    refine ⟨by omega, ?_⟩
    rintro p ⟨rfl, hp⟩
    refine ⟨⟨by omega, greedyD_B l⟩, ?_⟩
    rintro t ⟨rfl, ht⟩
    exact ⟨by simp only [List.length_append, List.length_cons, List.length_nil]; omega, by simp only [List.length_append, List.length_cons, List.length_nil]; omega, by rw [← hline], by simp only [List.length_append, List.length_cons, List.length_nil]; omega⟩
  rw [if_neg h1] at hline
  refine ⟨fun h1 => ?_, fun h1 => ?_⟩
  · rw [if_pos h1] at hline
    refine ⟨by omega, ?_⟩
    rintro p ⟨rfl, hp⟩
    refine ⟨⟨by omega, parseD_B l⟩, ?_⟩
    rintro t ⟨rfl, ht⟩
    exact ⟨by simp only [List.length_append, List.length_cons, List.length_nil]; omega, by simp only [List.length_append, List.length_cons, List.length_nil]; omega, by rw [← hline], by simp only [List.length_append, List.length_cons, List.length_nil]; omega⟩
  rw [if_neg h1] at hline
  exact ⟨by rw [← hline]; rfl, by simp only [List.length_append, List.length_cons, List.length_nil]; omega⟩
def V_s_l51Line : Prop :=
  ∀ (l0 : List UInt8), (l0.length : Int) ≤ 600 → ∃ (I1 : Int → Prop), ∃ (m2 : Int → Nat), I1 0 ∧ ∀ (n3 : Int), I1 n3 → (n3 < (l0.length : Int) → 0 ≤ n3 ∧ n3 < (l0.length : Int) ∧ ((↑(UInt8.toNat (List.getD l0 (n3.toNat) 0)) : Int) = 32 →
 (-9223372036854775808 ≤ n3 + 1 ∧ n3 + (1 : Int) ≤ (9223372036854775807 : Int)) ∧ 0 ≤ n3 + 1 ∧ n3 + 1 ≤ (l0.length : Int) ∧ (↑(List.length (List.drop (Int.toNat (n3 + 1)) l0)) : Int) ≤ 1000 ∧ ∀ (l4 : List Int), (true = LV (numsOf (List.drop
 (Int.toNat (n3 + 1)) l0)) ∧ (true = true → l4 = numsOf (List.drop (Int.toNat (n3 + 1)) l0)) ∧ (l4.length : Int) ≤ 1000 → 0 ≤ n3 ∧ n3 ≤ (l0.length : Int) ∧ ((↑(List.length (List.take (n3.toNat) l0)) : Int) ≤ 600 ∧ LV l4 = true) ∧ ∀ (l5 : List
 UInt8), l5 = wordS (List.take (n3.toNat) l0) l4 ++ [10] ∧ (l5.length : Int) ≤ 1201 → l5 = lineS l0 ++ [10] ∧ (l5.length : Int) ≤ 1201) ∧ (false = LV (numsOf (List.drop (Int.toNat (n3 + 1)) l0)) ∧ (false = true → l4 = numsOf (List.drop
 (Int.toNat (n3 + 1)) l0)) ∧ (l4.length : Int) ≤ 1000 → ([119, 104, 97, 116, 10] : List UInt8) = lineS l0 ++ [10] ∧ (↑(List.length ([119, 104, 97, 116, 10] : List UInt8)) : Int) ≤ 1201)) ∧ (¬(↑(UInt8.toNat (List.getD l0 (n3.toNat) 0)) : Int)
 = 32 → (-9223372036854775808 ≤ n3 + 1 ∧ n3 + (1 : Int) ≤ (9223372036854775807 : Int)) ∧ I1 (n3 + 1) ∧ m2 (n3 + 1) < m2 n3)) ∧ (¬n3 < (l0.length : Int) → ([119, 104, 97, 116, 10] : List UInt8) = lineS l0 ++ [10] ∧ (↑(List.length ([119, 104,
 97, 116, 10] : List UInt8)) : Int) ≤ 1201)
theorem v_s_l51Line : V_s_l51Line := by
  unfold V_s_l51Line
  intro s hz
  refine ⟨fun i => 0 ≤ i ∧ i ≤ s.length ∧ ∀ j, j < i.toNat → s.getD j 0 ≠ 32, fun i => (s.length - i).toNat, ?_, ?_⟩ <;> dsimp only
  · exact ⟨by omega, by omega, fun j h => by omega⟩
  rintro i ⟨i0, i1, hj⟩
  refine ⟨fun hi => ⟨i0, hi, fun h32 => ?_, fun hne => ⟨by omega, ⟨by omega, by omega, fun j h => ?_⟩, by omega⟩⟩, fun hi => ?_⟩
  · have hsp := spS_at s i.toNat (by omega) hj (u8_32.1 h32)
    have hline := lineS_some hsp
    rw [show i.toNat + 1 = (i + 1).toNat by omega] at hline
    refine ⟨by omega, by omega, by omega, by rw [List.length_drop]; omega, fun l => ⟨?_, ?_⟩⟩
    · rintro ⟨hv, hl, _⟩
      obtain rfl := hl rfl
      rw [if_pos hv.symm] at hline
      refine ⟨i0, by omega, ⟨by rw [List.length_take]; omega, hv.symm⟩, ?_⟩
      rintro o ⟨rfl, ho⟩
      exact ⟨by rw [hline], ho⟩
    · rintro ⟨hv, _, _⟩
      rw [← hv] at hline
      exact ⟨by rw [hline]; rfl, by simp only [List.length_append, List.length_cons, List.length_nil]; omega⟩
  · by_cases e : j = i.toNat
    · rw [e]; exact fun q => hne (u8_32.2 q)
    · exact hj j (by omega)
  · have hline := lineS_none (spS_no s (fun j h => hj j (by omega)))
    exact ⟨by rw [hline]; rfl, by simp only [List.length_append, List.length_cons, List.length_nil]; omega⟩
def V_s_Execute : Prop :=
  ∀ (l0 : List UInt8), (l0.length : Int) ≤ 2000000 → (600 < (l0.length : Int) → ([116, 111, 111, 32, 108, 111, 110, 103, 10] : List UInt8) = execD l0 ∧ (↑(List.length ([116, 111, 111, 32, 108, 111, 110, 103, 10] : List UInt8)) : Int) ≤
 1000000) ∧ (¬600 < (l0.length : Int) → ∃ (I1 : List UInt8 → Int → Int → Int → Prop), ∃ (m2 : List UInt8 → Int → Int → Int → Nat), I1 ([] : List UInt8) 0 0 0 ∧ ∀ (l3 : List UInt8) (n4 n5 n6 : Int), I1 l3 n4 n5 n6 → (n6 < (l0.length : Int) → 0
 ≤ n6 ∧ n6 < (l0.length : Int) ∧ ((↑(UInt8.toNat (List.getD l0 (n6.toNat) 0)) : Int) = 10 → 0 ≤ n5 ∧ n5 ≤ n6 ∧ n6 ≤ (l0.length : Int) ∧ (↑(List.length (List.drop (n5.toNat) (List.take (n6.toNat) l0))) : Int) ≤ 600 ∧ ∀ (l7 : List UInt8), l7 =
 lineS (List.drop (n5.toNat) (List.take (n6.toNat) l0)) ++ [10] ∧ (l7.length : Int) ≤ 1201 → (↑(l3.length + l7.length) : Int) ≤ 1099511627776 ∧ (-9223372036854775808 ≤ n4 + 1 ∧ n4 + (1 : Int) ≤ (9223372036854775807 : Int)) ∧
 (-9223372036854775808 ≤ n6 + 1 ∧ n6 + (1 : Int) ≤ (9223372036854775807 : Int)) ∧ (-9223372036854775808 ≤ n6 + 1 ∧ n6 + (1 : Int) ≤ (9223372036854775807 : Int)) ∧ I1 (l3 ++ l7) (n4 + 1) (n6 + 1) (n6 + 1) ∧ m2 (l3 ++ l7) (n4 + 1) (n6 + 1) (n6
 + 1) < m2 l3 n4 n5 n6) ∧ (¬(↑(UInt8.toNat (List.getD l0 (n6.toNat) 0)) : Int) = 10 → (-9223372036854775808 ≤ n6 + 1 ∧ n6 + (1 : Int) ≤ (9223372036854775807 : Int)) ∧ I1 l3 n4 n5 (n6 + 1) ∧ m2 l3 n4 n5 (n6 + 1) < m2 l3 n4 n5 n6)) ∧ (¬n6 <
 (l0.length : Int) → (↑(l3.length + List.length ([108, 105, 110, 101, 115, 32] : List UInt8)) : Int) ≤ 1099511627776 ∧ (-1000000000 < n4 ∧ n4 < 1000000000) ∧ ∀ (l8 : List UInt8), l8 = decI n4 ∧ (l8.length : Int) ≤ 10 → (↑(List.length (l3 ++
 ([108, 105, 110, 101, 115, 32] : List UInt8)) + l8.length) : Int) ≤ 1099511627776 ∧ (↑(List.length (l3 ++ ([108, 105, 110, 101, 115, 32] : List UInt8) ++ l8) + List.length ([10] : List UInt8)) : Int) ≤ 1099511627776 ∧ l3 ++ ([108, 105, 110,
 101, 115, 32] : List UInt8) ++ l8 ++ ([10] : List UInt8) = execD l0 ∧ (↑(List.length (l3 ++ ([108, 105, 110, 101, 115, 32] : List UInt8) ++ l8 ++ ([10] : List UInt8))) : Int) ≤ 1000000))
theorem v_s_Execute : V_s_Execute := by
  unfold V_s_Execute
  intro s hz
  refine ⟨fun h => ⟨(execD_long h).symm, by simp only [List.length_append, List.length_cons, List.length_nil]; omega⟩, fun h => ?_⟩
  have hex := execD_of h
  refine ⟨fun o k f i => 0 ≤ i ∧ i ≤ s.length ∧ 0 ≤ f ∧ f ≤ i ∧ 0 ≤ k ∧ k ≤ i ∧ (o.length : Int) ≤ 1201 * k ∧ ∃ L, parts (s.take i.toNat) = L ++ [(s.take i.toNat).drop f.toNat] ∧ o = outS L ∧ k = L.length, fun o k f i => (s.length - i).toNat, ?_, ?_⟩ <;> dsimp only
  · exact ⟨by omega, by omega, by omega, by omega, by omega, by omega, by simp, [], rfl, rfl, rfl⟩
  rintro o k f i ⟨i0, i1, f0, f1, k0, k1, hol, L, hP, rfl, hk⟩
  refine ⟨fun hi => ⟨i0, hi, fun h10 => ?_, fun hne => ?_⟩, fun hi => ?_⟩
  · have hst : s.take (i + 1).toNat = s.take i.toNat ++ [s.getD i.toNat 0] := take_lt 0 i0 hi
    refine ⟨f0, f1, by omega, by rw [List.length_drop, List.length_take]; omega, ?_⟩
    rintro d ⟨rfl, hd⟩
    have hP2 := parts_snoc' (b := s.getD i.toNat 0) hP
    rw [if_pos (u8_10.1 h10), ← hst] at hP2
    have hnil : (s.take (i + 1).toNat).drop (i + 1).toNat = [] := List.drop_eq_nil_of_le (by rw [List.length_take]; omega)
    exact ⟨by simp only [List.length_append, List.length_cons, List.length_nil] at hd ⊢; omega, by omega, by omega, by omega, ⟨by omega, by omega, by omega, by omega, by omega, by omega, by simp only [List.length_append, List.length_cons, List.length_nil] at hd ⊢; omega, L ++ [(s.take i.toNat).drop f.toNat], by rw [hnil]; exact hP2, by rw [outS_snoc], by rw [List.length_append]; simp; omega⟩, by omega⟩
  · have hst : s.take (i + 1).toNat = s.take i.toNat ++ [s.getD i.toNat 0] := take_lt 0 i0 hi
    have hP2 := parts_snoc' (b := s.getD i.toNat 0) hP
    rw [if_neg (fun q => hne (u8_10.2 q)), ← hst] at hP2
    have hd : (s.take (i + 1).toNat).drop f.toNat = (s.take i.toNat).drop f.toNat ++ [s.getD i.toNat 0] := by rw [hst, List.drop_append_of_le_length (by rw [List.length_take]; omega)]
    exact ⟨by omega, ⟨by omega, by omega, f0, by omega, k0, by omega, hol, L, by rw [hd]; exact hP2, rfl, hk⟩, by omega⟩
  · rw [take_ge hi] at hP
    have hlin : linesD s = L := by unfold linesD; rw [hP]; simp
    rw [hlin] at hex
    refine ⟨by simp only [List.length_append, List.length_cons, List.length_nil]; omega, by omega, ?_⟩
    rintro d ⟨rfl, hd⟩
    exact ⟨by simp only [List.length_append, List.length_cons, List.length_nil]; omega, by simp only [List.length_append, List.length_cons, List.length_nil]; omega, by rw [hex, hk]; simp [endS], by simp only [List.length_append, List.length_cons, List.length_nil]; omega⟩
def V_s_of : Prop :=
  ∀ (l0 : List UInt8) (n1 : Int) (l2 : List (List UInt8)), (l0.length : Int) ≤ 1099511627776 ∧ 0 ≤ n1 ∧ n1 ≤ 900000000 ∧ 1 ≤ (l2.length : Int) ∧ (l2.length : Int) ≤ 100 ∧ shortB l2 → ((l0.length : Int) ≤ 1099511627776 ∧ 0 ≤ n1 ∧ n1 ≤
 1000000000) ∧ ∀ (l3 : List UInt8) (n4 n5 : Int), l0 = l3 ∧ n4 = n1 + 1 ∧ 0 ≤ n5 ∧ (1 ≤ (l2.length : Int) → n5 < (l2.length : Int)) → 0 ≤ n5 ∧ n5 < (l2.length : Int) ∧ l0 = l3 ∧ n4 = n1 + 1 ∧ (↑(List.length (List.getD l2 (n5.toNat) [])) :
 Int) ≤ 10
theorem v_s_of : V_s_of := by
  unfold V_s_of
  rintro b p l ⟨hz, h0, h1, l1, l2, hs⟩
  refine ⟨by omega, ?_⟩
  rintro b' q k ⟨rfl, rfl, k0, k1⟩
  have hx := hs _ (getD_memG [] k0 (k1 l1))
  exact ⟨k0, k1 l1, rfl, rfl, by omega⟩
def V_s_l6Many : Prop :=
  ∀ (l0 : List UInt8) (n1 : Int), (l0.length : Int) ≤ 10 ∧ 0 ≤ n1 ∧ n1 ≤ 100 → ∃ (I2 : List UInt8 → Int → List UInt8 → Prop), ∃ (m3 : List UInt8 → Int → List UInt8 → Nat), I2 l0 n1 ([] : List UInt8) ∧ ∀ (l4 : List UInt8) (n5 : Int) (l6 : List
 UInt8), I2 l4 n5 l6 → (0 < n5 → 0 ≤ n5 ∧ (0 : Int) < 2 ∧ (n5 % (2 : Int) = 1 → (↑(l6.length + l4.length) : Int) ≤ 1099511627776 ∧ (↑(l4.length + l4.length) : Int) ≤ 1099511627776 ∧ 0 ≤ n5 ∧ (0 : Int) < 2 ∧ (-9223372036854775808 ≤ n5 / 2 ∧ n5
 / (2 : Int) ≤ (9223372036854775807 : Int)) ∧ I2 (l4 ++ l4) (n5 / 2) (l6 ++ l4) ∧ m3 (l4 ++ l4) (n5 / 2) (l6 ++ l4) < m3 l4 n5 l6) ∧ (¬n5 % (2 : Int) = 1 → (↑(l4.length + l4.length) : Int) ≤ 1099511627776 ∧ 0 ≤ n5 ∧ (0 : Int) < 2 ∧
 (-9223372036854775808 ≤ n5 / 2 ∧ n5 / (2 : Int) ≤ (9223372036854775807 : Int)) ∧ I2 (l4 ++ l4) (n5 / 2) l6 ∧ m3 (l4 ++ l4) (n5 / 2) l6 < m3 l4 n5 l6)) ∧ (¬0 < n5 → (l6.length : Int) ≤ 1000)
theorem v_s_l6Many : V_s_l6Many := by
  unfold V_s_l6Many
  rintro s n ⟨hs, h0, h1⟩
  refine ⟨fun x n o => 0 ≤ n ∧ n ≤ 100 ∧ (o.length : Int) + n * x.length ≤ 1000, fun x n o => n.toNat, ?_, ?_⟩ <;> dsimp only
  · refine ⟨by omega, by omega, ?_⟩
    have : n * (s.length : Int) ≤ 100 * s.length := Int.mul_le_mul_of_nonneg_right h1 (by omega)
    simp only [List.length_nil]
    omega
  rintro x n o ⟨n0, n1, hI⟩
  refine ⟨fun hn => ⟨by omega, by omega, fun h2 => ?_, fun h2 => ?_⟩, fun hn => ?_⟩
  all_goals have hnn : 0 ≤ n * (x.length : Int) := Int.mul_nonneg n0 (by omega)
  · have hx : 1 * (x.length : Int) ≤ n * x.length := Int.mul_le_mul_of_nonneg_right (by omega) (by omega)
    have hh := half_mul (n := n) (x := x.length)
    rw [h2] at hh
    refine ⟨by omega, by omega, by omega, by omega, by omega, ⟨by omega, by omega, ?_⟩, by omega⟩
    have e1 : ((o ++ x).length : Int) = o.length + x.length := by rw [List.length_append]; omega
    have e2 : ((x ++ x).length : Int) = x.length + x.length := by rw [List.length_append]; omega
    rw [e1, e2, hh]; omega
  · have hx : 1 * (x.length : Int) ≤ n * x.length := Int.mul_le_mul_of_nonneg_right (by omega) (by omega)
    have hh := half_mul (n := n) (x := x.length)
    rw [show n % 2 = 0 by omega] at hh
    refine ⟨by omega, by omega, by omega, by omega, ⟨by omega, by omega, ?_⟩, by omega⟩
    have e2 : ((x ++ x).length : Int) = x.length + x.length := by rw [List.length_append]; omega
    rw [e2, hh]; omega
  · omega
def V_s_l92Digits : Prop :=
  ∀ (l0 : List UInt8) (n1 : Int), (l0.length : Int) ≤ 1099511627776 ∧ 0 ≤ n1 ∧ n1 ≤ 800000000 → ((l0.length : Int) ≤ 1099511627776 ∧ 0 ≤ n1 ∧ n1 ≤ 900000000) ∧ ∀ (l2 : List UInt8) (n3 : Int) (l4 : List Int), l0 = l2 ∧ n1 ≤ n3 ∧ n3 ≤ n1 + 10000
 ∧ (l4.length : Int) ≤ 400 ∧ allIn (-1) 8 l4 = true → ∃ (I5 : List UInt8 → Int → Prop), ∃ (m6 : List UInt8 → Int → Nat), I5 ([] : List UInt8) 0 ∧ ∀ (l7 : List UInt8) (n8 : Int), I5 l7 n8 → (n8 < (l4.length : Int) → (n8 < 24 → 0 ≤ n8 ∧ n8 <
 (l4.length : Int) ∧ n8.toNat < l4.length ∧ (-1000000000 < List.getD l4 (n8.toNat) 0 ∧ List.getD l4 (n8.toNat) (0 : Int) < 1000000000) ∧ ∀ (l9 : List UInt8), l9 = decI (List.getD l4 (n8.toNat) 0) ∧ (l9.length : Int) ≤ 10 → (↑(l7.length +
 l9.length) : Int) ≤ 1099511627776 ∧ (-9223372036854775808 ≤ n8 + 1 ∧ n8 + (1 : Int) ≤ (9223372036854775807 : Int)) ∧ I5 (l7 ++ l9) (n8 + 1) ∧ m6 (l7 ++ l9) (n8 + 1) < m6 l7 n8) ∧ (¬n8 < 24 → l0 = l2 ∧ n1 ≤ n3 ∧ n3 ≤ n1 + 10000 ∧ (l7.length :
 Int) ≤ 240)) ∧ (¬n8 < (l4.length : Int) → l0 = l2 ∧ n1 ≤ n3 ∧ n3 ≤ n1 + 10000 ∧ (l7.length : Int) ≤ 240)
theorem v_s_l92Digits : V_s_l92Digits := by
  unfold V_s_l92Digits
  rintro b p ⟨hz, h0, h1⟩
  refine ⟨by omega, ?_⟩
  rintro b' q l ⟨rfl, q0, q1, hl, hin⟩
  refine ⟨fun o i => 0 ≤ i ∧ i ≤ 24 ∧ (o.length : Int) ≤ 10 * i, fun o i => (24 - i).toNat, ?_, ?_⟩ <;> dsimp only
  · exact ⟨by omega, by omega, by simp⟩
  rintro o i ⟨i0, i1, ho⟩
  refine ⟨fun hi => ⟨fun h24 => ?_, fun h24 => ⟨rfl, q0, q1, by omega⟩⟩, fun hi => ⟨rfl, q0, q1, by omega⟩⟩
  have hx := allIn_iff.1 hin _ (getD_memG 0 i0 hi)
  refine ⟨i0, hi, by omega, by omega, ?_⟩
  rintro d ⟨rfl, hd⟩
  exact ⟨by omega, by omega, ⟨by omega, by omega, by rw [List.length_append]; omega⟩, by omega⟩
def V_s_DrawExecute : Prop :=
  ∀ (l0 : List UInt8), (l0.length : Int) ≤ 1099511627776 → (l0.length : Int) ≤ 1099511627776 ∧ ∀ (l1 : List UInt8) (n2 : Int), n2 = 0 ∧ (l1.length : Int) ≤ 2000 → ((l1.length : Int) ≤ 1099511627776 ∧ 0 ≤ n2 ∧ n2 ≤ 1000000000) ∧ ∀ (l3 : List
 UInt8) (n4 n5 : Int), l1 = l3 ∧ n4 = n2 + 1 ∧ 0 ≤ n5 ∧ ((1 : Int) ≤ 9 → n5 < 9) → ∃ (I6 : List UInt8 → Int → List UInt8 → Int → Prop), ∃ (m7 : List UInt8 → Int → List UInt8 → Int → Nat), I6 ([] : List UInt8) 0 l3 n4 ∧ ∀ (l8 : List UInt8) (n9
 : Int) (l10 : List UInt8) (n11 : Int), I6 l8 n9 l10 n11 → (n9 < n5 → ((l10.length : Int) ≤ 1099511627776 ∧ 0 ≤ n11 ∧ n11 ≤ 1000000000) ∧ ∀ (l12 : List UInt8) (n13 n14 : Int), l10 = l12 ∧ n13 = n11 + 1 ∧ 0 ≤ n14 ∧ ((1 : Int) ≤ 9 → n14 < 9) →
 (n14 = 0 → ((l12.length : Int) ≤ 1099511627776 ∧ 0 ≤ n13 ∧ n13 ≤ 900000000 ∧ 1 ≤ (↑(List.length [([112, 97, 99, 107] : List UInt8), ([] : List UInt8), ([119, 104, 97, 116, 32, 49] : List UInt8), ([114, 117, 110, 115, 32, 56] : List UInt8),
 ([116, 117, 114, 110, 32, 49, 32, 50] : List UInt8), ([98, 101, 115, 116, 32, 45, 49] : List UInt8), ([32, 49] : List UInt8)]) : Int) ∧ (↑(List.length [([112, 97, 99, 107] : List UInt8), ([] : List UInt8), ([119, 104, 97, 116, 32, 49] : List
 UInt8), ([114, 117, 110, 115, 32, 56] : List UInt8), ([116, 117, 114, 110, 32, 49, 32, 50] : List UInt8), ([98, 101, 115, 116, 32, 45, 49] : List UInt8), ([32, 49] : List UInt8)]) : Int) ≤ 100 ∧ shortB [([112, 97, 99, 107] : List UInt8), ([]
 : List UInt8), ([119, 104, 97, 116, 32, 49] : List UInt8), ([114, 117, 110, 115, 32, 56] : List UInt8), ([116, 117, 114, 110, 32, 49, 32, 50] : List UInt8), ([98, 101, 115, 116, 32, 45, 49] : List UInt8), ([32, 49] : List UInt8)]) ∧ ∀ (l15 :
 List UInt8) (n16 : Int) (l17 : List UInt8), l12 = l15 ∧ n16 = n13 + 1 ∧ (l17.length : Int) ≤ 10 → (↑(l8.length + l17.length) : Int) ≤ 1099511627776 ∧ (↑(List.length (l8 ++ l17) + List.length ([10] : List UInt8)) : Int) ≤ 1099511627776 ∧
 (-9223372036854775808 ≤ n9 + 1 ∧ n9 + (1 : Int) ≤ (9223372036854775807 : Int)) ∧ I6 (l8 ++ l17 ++ ([10] : List UInt8)) (n9 + 1) l15 n16 ∧ m7 (l8 ++ l17 ++ ([10] : List UInt8)) (n9 + 1) l15 n16 < m7 l8 n9 l10 n11) ∧ (¬n14 = 0 → ((l12.length :
 Int) ≤ 1099511627776 ∧ 0 ≤ n13 ∧ n13 ≤ 900000000 ∧ 1 ≤ (↑(List.length [([112, 97, 99, 107, 32] : List UInt8), ([115, 105, 122, 101, 115, 32] : List UInt8), ([114, 117, 110, 115, 32] : List UInt8), ([102, 114, 111, 110, 116, 32] : List
 UInt8), ([116, 117, 114, 110, 32] : List UInt8), ([103, 114, 101, 101, 100, 121, 32] : List UInt8), ([98, 101, 115, 116, 32] : List UInt8)]) : Int) ∧ (↑(List.length [([112, 97, 99, 107, 32] : List UInt8), ([115, 105, 122, 101, 115, 32] :
 List UInt8), ([114, 117, 110, 115, 32] : List UInt8), ([102, 114, 111, 110, 116, 32] : List UInt8), ([116, 117, 114, 110, 32] : List UInt8), ([103, 114, 101, 101, 100, 121, 32] : List UInt8), ([98, 101, 115, 116, 32] : List UInt8)]) : Int) ≤
 100 ∧ shortB [([112, 97, 99, 107, 32] : List UInt8), ([115, 105, 122, 101, 115, 32] : List UInt8), ([114, 117, 110, 115, 32] : List UInt8), ([102, 114, 111, 110, 116, 32] : List UInt8), ([116, 117, 114, 110, 32] : List UInt8), ([103, 114,
 101, 101, 100, 121, 32] : List UInt8), ([98, 101, 115, 116, 32] : List UInt8)]) ∧ ∀ (l18 : List UInt8) (n19 : Int) (l20 : List UInt8), l12 = l18 ∧ n19 = n13 + 1 ∧ (l20.length : Int) ≤ 10 → (↑(l8.length + l20.length) : Int) ≤ 1099511627776 ∧
 ((l18.length : Int) ≤ 1099511627776 ∧ 0 ≤ n19 ∧ n19 ≤ 800000000) ∧ ∀ (l21 : List UInt8) (n22 : Int) (l23 : List UInt8), l18 = l21 ∧ n19 ≤ n22 ∧ n22 ≤ n19 + 10000 ∧ (l23.length : Int) ≤ 240 → (↑(List.length (l8 ++ l20) + l23.length) : Int) ≤
 1099511627776 ∧ (↑(List.length (l8 ++ l20 ++ l23) + List.length ([10] : List UInt8)) : Int) ≤ 1099511627776 ∧ (-9223372036854775808 ≤ n9 + 1 ∧ n9 + (1 : Int) ≤ (9223372036854775807 : Int)) ∧ I6 (l8 ++ l20 ++ l23 ++ ([10] : List UInt8)) (n9 +
 1) l21 n22 ∧ m7 (l8 ++ l20 ++ l23 ++ ([10] : List UInt8)) (n9 + 1) l21 n22 < m7 l8 n9 l10 n11)) ∧ (¬n9 < n5 → ((l10.length : Int) ≤ 1099511627776 ∧ 0 ≤ n11 ∧ n11 ≤ 1000000000) ∧ ∀ (l24 : List UInt8) (n25 n26 : Int), l10 = l24 ∧ n25 = n11 + 1
 ∧ 0 ≤ n26 ∧ ((1 : Int) ≤ 20 → n26 < 20) → (n26 = 0 → ((l24.length : Int) ≤ 1099511627776 ∧ 0 ≤ n25 ∧ n25 ≤ 1000000000) ∧ ∀ (l27 : List UInt8) (n28 n29 : Int), l24 = l27 ∧ n28 = n25 + 1 ∧ 0 ≤ n29 ∧ ((1 : Int) ≤ 6 → n29 < 6) →
 ((-9223372036854775808 : Int) ≤ 82 + n29 ∧ 82 + n29 ≤ (9223372036854775807 : Int)) ∧ ((↑(List.length ([114, 117, 110, 115, 32, 49, 10] : List UInt8)) : Int) ≤ 10 ∧ (0 : Int) ≤ 82 + n29 ∧ 82 + n29 ≤ 100) ∧ ∀ (l30 : List UInt8), (l30.length :
 Int) ≤ 1000 → (↑(l8.length + l30.length) : Int) ≤ 1099511627776 ∧ (↑(List.length (l8 ++ l30)) : Int) ≤ 4000) ∧ (¬n26 = 0 → (n26 = 1 → (↑(l8.length + List.length ([114, 117, 110, 115, 32, 49, 49] : List UInt8)) : Int) ≤ 1099511627776 ∧
 (↑(List.length (l8 ++ ([114, 117, 110, 115, 32, 49, 49] : List UInt8))) : Int) ≤ 4000) ∧ (¬n26 = 1 → (n26 = 2 → (↑(l8.length + List.length ([114, 117, 110, 115, 32, 49, 49] : List UInt8)) : Int) ≤ 1099511627776 ∧ (↑(List.length (l8 ++ ([114,
 117, 110, 115, 32, 49, 49] : List UInt8))) : Int) ≤ 4000) ∧ (¬n26 = 2 → (l8.length : Int) ≤ 4000))))
theorem v_s_DrawExecute : V_s_DrawExecute := by
  unfold V_s_DrawExecute
  intro code hz
  refine ⟨hz, ?_⟩
  rintro b p ⟨rfl, hb⟩
  refine ⟨by omega, ?_⟩
  rintro b p n ⟨rfl, rfl, n0, n1⟩
  have n1 := n1 (by omega)
  refine ⟨fun o i c q => c = b ∧ 0 ≤ i ∧ i ≤ n ∧ 0 ≤ q ∧ q ≤ 1 + 10010 * i ∧ (o.length : Int) ≤ 260 * i, fun o i c q => (n - i).toNat, ?_, ?_⟩ <;> dsimp only
  · exact ⟨rfl, by omega, n0, by omega, by omega, by simp⟩
  rintro o i c q ⟨rfl, i0, i1, q0, q1, ho⟩
  refine ⟨fun hi => ⟨by omega, ?_⟩, fun hi => ⟨by omega, ?_⟩⟩
  · rintro c q k ⟨rfl, rfl, k0, k1⟩
    refine ⟨fun _ => ⟨⟨by omega, by omega, by omega, by simp, by simp, by unfold shortB; decide⟩, ?_⟩, fun _ => ⟨⟨by omega, by omega, by omega, by simp, by simp, by unfold shortB; decide⟩, ?_⟩⟩
    · rintro c q t ⟨rfl, rfl, ht⟩
      exact ⟨by first | omega | (simp only [List.length_append, List.length_cons, List.length_nil]; omega), by first | omega | (simp only [List.length_append, List.length_cons, List.length_nil]; omega), by omega, ⟨rfl, by omega, by omega, by omega, by omega, by first | omega | (simp only [List.length_append, List.length_cons, List.length_nil]; omega)⟩, by omega⟩
    · rintro c q t ⟨rfl, rfl, ht⟩
      refine ⟨by first | omega | (simp only [List.length_append, List.length_cons, List.length_nil]; omega), by omega, ?_⟩
      rintro c q u ⟨rfl, q2, q3, hu⟩
      exact ⟨by first | omega | (simp only [List.length_append, List.length_cons, List.length_nil]; omega), by first | omega | (simp only [List.length_append, List.length_cons, List.length_nil]; omega), by omega, ⟨rfl, by omega, by omega, by omega, by omega, by first | omega | (simp only [List.length_append, List.length_cons, List.length_nil]; omega)⟩, by omega⟩
  · rintro c q k ⟨rfl, rfl, k0, k1⟩
    refine ⟨fun _ => ⟨by omega, ?_⟩, fun _ => ⟨fun _ => ⟨by first | omega | (simp only [List.length_append, List.length_cons, List.length_nil]; omega), by first | omega | (simp only [List.length_append, List.length_cons, List.length_nil]; omega)⟩, fun _ => ⟨fun _ => ⟨by first | omega | (simp only [List.length_append, List.length_cons, List.length_nil]; omega), by first | omega | (simp only [List.length_append, List.length_cons, List.length_nil]; omega)⟩, fun _ => by omega⟩⟩⟩
    rintro c q m ⟨rfl, rfl, m0, m1⟩
    refine ⟨by omega, ⟨by first | omega | (simp only [List.length_append, List.length_cons, List.length_nil]; omega), by omega, by omega⟩, ?_⟩
    intro t ht
    exact ⟨by omega, by first | omega | (simp only [List.length_append, List.length_cons, List.length_nil]; omega)⟩
def V_l_completeLines : Prop :=
  ∀ (l0 : List UInt8), (l0.length : Int) ≤ 2000000 → ∃ (I1 : Int → Prop), ∃ (m2 : Int → Nat), I1 (l0.length : Int) ∧ ∀ (n3 : Int), I1 n3 → (0 < n3 → (-9223372036854775808 ≤ n3 - 1 ∧ n3 - (1 : Int) ≤ (9223372036854775807 : Int)) ∧ 0 ≤ n3 - 1 ∧
 n3 - 1 < (l0.length : Int) ∧ ((↑(UInt8.toNat (List.getD l0 (Int.toNat (n3 - 1)) 0)) : Int) = 10 → 0 ≤ n3 ∧ n3 ≤ (l0.length : Int) ∧ List.take (n3.toNat) l0 = complS l0 ∧ (↑(List.length (List.take (n3.toNat) l0)) : Int) ≤ (l0.length : Int)) ∧
 (¬(↑(UInt8.toNat (List.getD l0 (Int.toNat (n3 - 1)) 0)) : Int) = 10 → (-9223372036854775808 ≤ n3 - 1 ∧ n3 - (1 : Int) ≤ (9223372036854775807 : Int)) ∧ I1 (n3 - 1) ∧ m2 (n3 - 1) < m2 n3)) ∧ (¬0 < n3 → ([] : List UInt8) = complS l0 ∧
 (↑(List.length ([] : List UInt8)) : Int) ≤ (l0.length : Int))
theorem v_l_completeLines : V_l_completeLines := by
  unfold V_l_completeLines
  intro s hz
  refine ⟨fun n => 0 ≤ n ∧ n ≤ s.length ∧ complS (s.take n.toNat) = complS s, fun n => n.toNat, ?_, ?_⟩ <;> dsimp only
  · exact ⟨by omega, by omega, by rw [List.take_of_length_le (by omega)]⟩
  rintro n ⟨n0, n1, hI⟩
  refine ⟨fun hn => ?_, fun hn => ?_⟩
  · have hst : s.take n.toNat = s.take (n - 1).toNat ++ [s.getD (n - 1).toNat 0] := by
      have := take_lt (l := s) (i := n - 1) 0 (by omega) (by omega)
      rwa [show (n - 1 + 1).toNat = n.toNat by omega] at this
    rw [hst, complS_snoc] at hI
    refine ⟨by omega, by omega, by omega, fun h10 => ?_, fun hne => ?_⟩
    · rw [if_pos (u8_10.1 h10)] at hI
      exact ⟨n0, n1, by rw [hst]; exact hI, by rw [List.length_take]; omega⟩
    · rw [if_neg (fun q => hne (u8_10.2 q))] at hI
      exact ⟨by omega, ⟨by omega, by omega, hI⟩, by omega⟩
  · rw [show n.toNat = 0 by omega] at hI
    exact ⟨hI, by simp⟩
def V_l_lastLine : Prop :=
  ∀ (l0 : List UInt8), (l0.length : Int) ≤ 2000000 → (-9223372036854775808 ≤ (l0.length : Int) - 2 ∧ (l0.length : Int) - (2 : Int) ≤ (9223372036854775807 : Int)) ∧ ∃ (I1 : Int → Prop), ∃ (m2 : Int → Nat), I1 ((l0.length : Int) - 2) ∧ ∀ (n3 :
 Int), I1 n3 → (0 ≤ n3 → 0 ≤ n3 ∧ n3 < (l0.length : Int) ∧ ((↑(UInt8.toNat (List.getD l0 (n3.toNat) 0)) : Int) = 10 → (-9223372036854775808 ≤ n3 + 1 ∧ n3 + (1 : Int) ≤ (9223372036854775807 : Int)) ∧ 0 ≤ n3 + 1 ∧ n3 + 1 ≤ (l0.length : Int) ∧
 List.drop (Int.toNat (n3 + 1)) l0 = lastS l0) ∧ (¬(↑(UInt8.toNat (List.getD l0 (n3.toNat) 0)) : Int) = 10 → (-9223372036854775808 ≤ n3 - 1 ∧ n3 - (1 : Int) ≤ (9223372036854775807 : Int)) ∧ I1 (n3 - 1) ∧ m2 (n3 - 1) < m2 n3)) ∧ (¬0 ≤ n3 → l0
 = lastS l0)
theorem v_l_lastLine : V_l_lastLine := by
  unfold V_l_lastLine
  intro s hz
  refine ⟨by omega, ?_⟩
  refine ⟨fun n => -2 ≤ n ∧ n ≤ (s.length : Int) - 2 ∧ (0 ≤ n + 1 → tailS (s.take (n + 1).toNat) ++ s.drop (n + 1).toNat = lastS s) ∧ (n = -2 → s = []), fun n => (n + 2).toNat, ?_, ?_⟩ <;> dsimp only
  · refine ⟨by omega, by omega, fun h => ?_, fun h => List.eq_nil_of_length_eq_zero (by omega)⟩
    unfold lastS
    rw [show ((s.length : Int) - 2 + 1).toNat = s.length - 1 by omega, List.dropLast_eq_take]
  rintro n ⟨n0, n1, hI, hnil⟩
  refine ⟨fun hn => ?_, fun hn => ?_⟩
  · have hI := hI (by omega)
    have hst : s.take (n + 1).toNat = s.take n.toNat ++ [s.getD n.toNat 0] := take_lt 0 hn (by omega)
    have hdr : s.drop n.toNat = s.getD n.toNat 0 :: s.drop (n + 1).toNat := drop_lt 0 hn (by omega)
    rw [hst, tailS_snoc] at hI
    refine ⟨hn, by omega, fun h10 => ?_, fun hne => ?_⟩
    · rw [if_pos (u8_10.1 h10)] at hI
      exact ⟨by omega, by omega, by omega, hI⟩
    · rw [if_neg (fun q => hne (u8_10.2 q))] at hI
      refine ⟨by omega, ⟨by omega, by omega, fun _ => ?_, fun q => by omega⟩, by omega⟩
      rw [show (n - 1 + 1).toNat = n.toNat by omega, hdr]
      rw [List.append_assoc] at hI
      exact hI
  · by_cases e : n = -2
    · rw [hnil e]; rfl
    · have hI := hI (by omega)
      rw [show (n + 1).toNat = 0 by omega] at hI
      exact hI
end Go.Proofs.YtfnmhnbadepooaaGreatDoor
