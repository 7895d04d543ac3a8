/-
  The conditions of functions, proved: p_block.
-/
import Derived.Test.YtkkgpcbkkahieaaM
set_option linter.unusedVariables false
set_option linter.unusedSimpArgs false
open Go Go.Ax Go.Mx
namespace Go.Proofs.Ytkkgpcbkkahieaa
def V_s_l21Runs : Prop :=
  ∀ (l0 : List Int), LV l0 = true → LV l0 = true ∧ ∀ (l1 : List (Int × Int)), l1 = runs l0 ∧ (l1.length : Int) ≤ 40 → ∃ (I2 : List Int → Int → Prop), ∃ (m3 : List Int → Int → Nat), I2 [1, (l1.length : Int)] 0 ∧ ∀ (l4 : List Int) (n5 : Int), I2
 l4 n5 → (n5 < (l1.length : Int) → 0 ≤ n5 ∧ n5 < (l1.length : Int) ∧ n5.toNat < l1.length ∧ 0 ≤ n5 ∧ n5 < (l1.length : Int) ∧ n5.toNat < l1.length ∧ (↑(l4.length + List.length [Prod.fst (List.getD l1 (n5.toNat) (0, 0)), Prod.snd (List.getD l1
 (n5.toNat) (0, 0))]) : Int) ≤ 1099511627776 ∧ (-9223372036854775808 ≤ n5 + 1 ∧ n5 + (1 : Int) ≤ (9223372036854775807 : Int)) ∧ I2 (l4 ++ [Prod.fst (List.getD l1 (n5.toNat) (0, 0)), Prod.snd (List.getD l1 (n5.toNat) (0, 0))]) (n5 + 1) ∧ m3
 (l4 ++ [Prod.fst (List.getD l1 (n5.toNat) (0, 0)), Prod.snd (List.getD l1 (n5.toNat) (0, 0))]) (n5 + 1) < m3 l4 n5) ∧ (¬n5 < (l1.length : Int) → l4 = 1 :: (↑(List.length (runs l0)) : Int) :: flatR (runs l0))
theorem v_s_l21Runs : V_s_l21Runs := by
  unfold V_s_l21Runs
  intro l hv
  refine ⟨hv, ?_⟩
  rintro rs ⟨rfl, h40⟩
  refine ⟨fun o i => 0 ≤ i ∧ i ≤ (runs l).length ∧ o = 1 :: ((runs l).length : Int) :: flatR ((runs l).take i.toNat), fun o i => (((runs l).length : Int) - i).toNat, ?_, ?_⟩ <;> dsimp only
  · exact ⟨by omega, by omega, rfl⟩
  rintro o i ⟨i0, i1, rfl⟩
  refine ⟨fun hlt => ?_, fun hge => by rw [take_ge hge]⟩
  have hst := flatR_step i0 hlt
  have hfl := flatR_len ((runs l).take i.toNat)
  have htl := len_take (l := runs l) i0 i1
  exact ⟨i0, hlt, by omega, i0, hlt, by omega, by simp only [List.length_cons, List.length_nil]; omega, by omega, ⟨by omega, by omega, by rw [hst]; simp⟩, by omega⟩
def V_s_l21Prefix : Prop :=
  ∀ (l0 : List Int), LV l0 = true ∧ 0 < (l0.length : Int) → LV l0 = true ∧ ∀ (l1 : List Int), l1 = countsL l0 → (l1.length : Int) ≤ 1099511627776 ∧ ∀ (l2 : List Int), (true = Option.isSome (lengthsD l1) ∧ l2 = Option.getD (lengthsD l1) [] → ∃
 (I3 : List Int → Int → Prop), ∃ (m4 : List Int → Int → Nat), I3 [2, (l0.length : Int)] 0 ∧ ∀ (l5 : List Int) (n6 : Int), I3 l5 n6 → (n6 < 8 → 0 ≤ n6 ∧ n6 < (l2.length : Int) ∧ n6.toNat < l2.length ∧ ((-9223372036854775808 : Int) ≤ 16 *
 List.getD l2 (n6.toNat) 0 ∧ 16 * List.getD l2 (n6.toNat) (0 : Int) ≤ (9223372036854775807 : Int)) ∧ (-9223372036854775808 ≤ n6 + 1 ∧ n6 + (1 : Int) ≤ (9223372036854775807 : Int)) ∧ 0 ≤ n6 + 1 ∧ n6 + 1 < (l2.length : Int) ∧ Int.toNat (n6 + 1)
 < l2.length ∧ ((-9223372036854775808 : Int) ≤ 16 * List.getD l2 (n6.toNat) 0 + List.getD l2 (Int.toNat (n6 + 1)) 0 ∧ 16 * List.getD l2 (n6.toNat) 0 + List.getD l2 (Int.toNat (n6 + 1)) (0 : Int) ≤ (9223372036854775807 : Int)) ∧ (↑(l5.length +
 List.length [16 * List.getD l2 (n6.toNat) 0 + List.getD l2 (Int.toNat (n6 + 1)) 0]) : Int) ≤ 1099511627776 ∧ (-9223372036854775808 ≤ n6 + 2 ∧ n6 + (2 : Int) ≤ (9223372036854775807 : Int)) ∧ I3 (l5 ++ [16 * List.getD l2 (n6.toNat) 0 +
 List.getD l2 (Int.toNat (n6 + 1)) 0]) (n6 + 2) ∧ m4 (l5 ++ [16 * List.getD l2 (n6.toNat) 0 + List.getD l2 (Int.toNat (n6 + 1)) 0]) (n6 + 2) < m4 l5 n6) ∧ (¬n6 < 8 → ((l0.length : Int) ≤ 1099511627776 ∧ (l2.length : Int) ≤ 1099511627776) ∧ ∀
 (l7 : List Int), (true = Option.isSome (encD l0 l2) ∧ l7 = Option.getD (encD l0 l2) [] → (l7.length : Int) ≤ 1099511627776 ∧ ∀ (l8 : List Int), ((true = bitsIn l7 ∧ l8 = if bitsIn l7 = true then bytesOf l7 else []) → (↑(l5.length +
 l8.length) : Int) ≤ 1099511627776 ∧ l5 ++ l8 = 2 :: (l0.length : Int) :: (lens4 (lensF l0) ++ bytesOf (enc (lensF l0) l0))) ∧ ((false = bitsIn l7 ∧ l8 = if bitsIn l7 = true then bytesOf l7 else []) → (↑(l5.length + l8.length) : Int) ≤
 1099511627776 ∧ l5 ++ l8 = 2 :: (l0.length : Int) :: (lens4 (lensF l0) ++ bytesOf (enc (lensF l0) l0)))) ∧ (false = Option.isSome (encD l0 l2) ∧ l7 = Option.getD (encD l0 l2) [] → (l7.length : Int) ≤ 1099511627776 ∧ ∀ (l9 : List Int), ((true
 = bitsIn l7 ∧ l9 = if bitsIn l7 = true then bytesOf l7 else []) → (↑(l5.length + l9.length) : Int) ≤ 1099511627776 ∧ l5 ++ l9 = 2 :: (l0.length : Int) :: (lens4 (lensF l0) ++ bytesOf (enc (lensF l0) l0))) ∧ ((false = bitsIn l7 ∧ l9 = if
 bitsIn l7 = true then bytesOf l7 else []) → (↑(l5.length + l9.length) : Int) ≤ 1099511627776 ∧ l5 ++ l9 = 2 :: (l0.length : Int) :: (lens4 (lensF l0) ++ bytesOf (enc (lensF l0) l0)))))) ∧ (false = Option.isSome (lengthsD l1) ∧ l2 =
 Option.getD (lengthsD l1) [] → ∃ (I10 : List Int → Int → Prop), ∃ (m11 : List Int → Int → Nat), I10 [2, (l0.length : Int)] 0 ∧ ∀ (l12 : List Int) (n13 : Int), I10 l12 n13 → (n13 < 8 → 0 ≤ n13 ∧ n13 < (l2.length : Int) ∧ n13.toNat < l2.length
 ∧ ((-9223372036854775808 : Int) ≤ 16 * List.getD l2 (n13.toNat) 0 ∧ 16 * List.getD l2 (n13.toNat) (0 : Int) ≤ (9223372036854775807 : Int)) ∧ (-9223372036854775808 ≤ n13 + 1 ∧ n13 + (1 : Int) ≤ (9223372036854775807 : Int)) ∧ 0 ≤ n13 + 1 ∧ n13
 + 1 < (l2.length : Int) ∧ Int.toNat (n13 + 1) < l2.length ∧ ((-9223372036854775808 : Int) ≤ 16 * List.getD l2 (n13.toNat) 0 + List.getD l2 (Int.toNat (n13 + 1)) 0 ∧ 16 * List.getD l2 (n13.toNat) 0 + List.getD l2 (Int.toNat (n13 + 1)) (0 :
 Int) ≤ (9223372036854775807 : Int)) ∧ (↑(l12.length + List.length [16 * List.getD l2 (n13.toNat) 0 + List.getD l2 (Int.toNat (n13 + 1)) 0]) : Int) ≤ 1099511627776 ∧ (-9223372036854775808 ≤ n13 + 2 ∧ n13 + (2 : Int) ≤ (9223372036854775807 :
 Int)) ∧ I10 (l12 ++ [16 * List.getD l2 (n13.toNat) 0 + List.getD l2 (Int.toNat (n13 + 1)) 0]) (n13 + 2) ∧ m11 (l12 ++ [16 * List.getD l2 (n13.toNat) 0 + List.getD l2 (Int.toNat (n13 + 1)) 0]) (n13 + 2) < m11 l12 n13) ∧ (¬n13 < 8 →
 ((l0.length : Int) ≤ 1099511627776 ∧ (l2.length : Int) ≤ 1099511627776) ∧ ∀ (l14 : List Int), (true = Option.isSome (encD l0 l2) ∧ l14 = Option.getD (encD l0 l2) [] → (l14.length : Int) ≤ 1099511627776 ∧ ∀ (l15 : List Int), ((true = bitsIn
 l14 ∧ l15 = if bitsIn l14 = true then bytesOf l14 else []) → (↑(l12.length + l15.length) : Int) ≤ 1099511627776 ∧ l12 ++ l15 = 2 :: (l0.length : Int) :: (lens4 (lensF l0) ++ bytesOf (enc (lensF l0) l0))) ∧ ((false = bitsIn l14 ∧ l15 = if
 bitsIn l14 = true then bytesOf l14 else []) → (↑(l12.length + l15.length) : Int) ≤ 1099511627776 ∧ l12 ++ l15 = 2 :: (l0.length : Int) :: (lens4 (lensF l0) ++ bytesOf (enc (lensF l0) l0)))) ∧ (false = Option.isSome (encD l0 l2) ∧ l14 =
 Option.getD (encD l0 l2) [] → (l14.length : Int) ≤ 1099511627776 ∧ ∀ (l16 : List Int), ((true = bitsIn l14 ∧ l16 = if bitsIn l14 = true then bytesOf l14 else []) → (↑(l12.length + l16.length) : Int) ≤ 1099511627776 ∧ l12 ++ l16 = 2 ::
 (l0.length : Int) :: (lens4 (lensF l0) ++ bytesOf (enc (lensF l0) l0))) ∧ ((false = bitsIn l14 ∧ l16 = if bitsIn l14 = true then bytesOf l14 else []) → (↑(l12.length + l16.length) : Int) ≤ 1099511627776 ∧ l12 ++ l16 = 2 :: (l0.length : Int)
 :: (lens4 (lensF l0) ++ bytesOf (enc (lensF l0) l0))))))
theorem v_s_l21Prefix : V_s_l21Prefix := by
  unfold V_s_l21Prefix
  rintro l ⟨hv, hl0⟩
  have hl := LV_len hv
  obtain ⟨hL, hE, hB, h320, h8, h88, h40⟩ := encD_list hv (by omega)
  refine ⟨hv, ?_⟩
  rintro cs rfl
  rw [hL]
  refine ⟨by rw [countsL_len]; omega, fun ls => ⟨?_, ?_⟩⟩
  · rintro ⟨_, hls⟩
    simp only [Option.getD_some] at hls
    subst hls
    rw [hE]
    refine ⟨fun o n => 0 ≤ n ∧ n ≤ 8 ∧ n % 2 = 0 ∧ o = 2 :: (l.length : Int) :: (lens4 (lensF l)).take (n / 2).toNat, fun o n => (8 - n).toNat, ?_, ?_⟩ <;> dsimp only
    · exact ⟨by omega, by omega, by omega, rfl⟩
    rintro o n ⟨n0, n1, n2, rfl⟩
    have htl : ((lens4 (lensF l)).take (n / 2).toNat).length ≤ 4 := by simp only [List.length_take, lens4, List.length_cons, List.length_nil]; omega
    refine ⟨fun hlt => ?_, fun hge => ⟨⟨by omega, by omega⟩, fun bs => ⟨?_, ?_⟩⟩⟩
    · have a1 := h88 _ (at_mem n0 (by omega : n < ((lensF l).length : Int)))
      have a2 := h88 _ (at_mem (by omega : 0 ≤ n + 1) (by omega : n + 1 < ((lensF l).length : Int)))
      have hst := lens_step (lensF l) n0 hlt n2
      exact ⟨n0, by omega, by omega, by omega, by omega, by omega, by omega, by omega, by omega, by simp only [List.length_cons, List.length_nil]; omega, by omega, ⟨by omega, by omega, by omega, by rw [hst]; simp⟩, by omega⟩
    · rintro ⟨_, hbs⟩
      simp only [Option.getD_some] at hbs
      subst hbs
      rw [hB]
      refine ⟨by omega, fun by_ => ⟨?_, ?_⟩⟩
      · rintro ⟨_, rfl⟩
        rw [lens_take _ hge, if_pos rfl]
        exact ⟨by simp only [List.length_cons, lens4, List.length_nil]; omega, by simp⟩
      · rintro ⟨q, _⟩; cases q
    · rintro ⟨q, _⟩; cases q
  · rintro ⟨q, _⟩; cases q
def V_s_l21Tokens : Prop :=
  ∀ (l0 : List Int), LV l0 = true → (l0.length : Int) ≤ 1099511627776 ∧ ∀ (l1 : List (Int × Int × Int)), l1 = parseD l0 ∧ (l1.length : Int) ≤ 40 → ∃ (I2 : List Int → Int → Prop), ∃ (m3 : List Int → Int → Nat), I2 [3, (l1.length : Int)] 0 ∧ ∀
 (l4 : List Int) (n5 : Int), I2 l4 n5 → (n5 < (l1.length : Int) → 0 ≤ n5 ∧ n5 < (l1.length : Int) ∧ n5.toNat < l1.length ∧ (Prod.fst (Prod.snd (List.getD l1 (n5.toNat) (0, 0, 0))) = 0 → (↑(l4.length + List.length [Prod.fst (List.getD l1
 (n5.toNat) (0, 0, 0))]) : Int) ≤ 1099511627776 ∧ (-9223372036854775808 ≤ n5 + 1 ∧ n5 + (1 : Int) ≤ (9223372036854775807 : Int)) ∧ I2 (l4 ++ [Prod.fst (List.getD l1 (n5.toNat) (0, 0, 0))]) (n5 + 1) ∧ m3 (l4 ++ [Prod.fst (List.getD l1
 (n5.toNat) (0, 0, 0))]) (n5 + 1) < m3 l4 n5) ∧ (¬Prod.fst (Prod.snd (List.getD l1 (n5.toNat) (0, 0, 0))) = 0 → (-9223372036854775808 ≤ Prod.snd (Prod.snd (List.getD l1 (n5.toNat) (0, 0, 0))) - 2 ∧ Prod.snd (Prod.snd (List.getD l1 (n5.toNat)
 (0, 0, 0))) - (2 : Int) ≤ (9223372036854775807 : Int)) ∧ ((-9223372036854775808 : Int) ≤ 16 * (Prod.snd (Prod.snd (List.getD l1 (n5.toNat) (0, 0, 0))) - 2) ∧ 16 * (Prod.snd (Prod.snd (List.getD l1 (n5.toNat) (0, 0, 0))) - 2) ≤
 (9223372036854775807 : Int)) ∧ ((-9223372036854775808 : Int) ≤ 128 + 16 * (Prod.snd (Prod.snd (List.getD l1 (n5.toNat) (0, 0, 0))) - 2) ∧ 128 + 16 * (Prod.snd (Prod.snd (List.getD l1 (n5.toNat) (0, 0, 0))) - 2) ≤ (9223372036854775807 : Int))
 ∧ ((-9223372036854775808 : Int) ≤ 128 + 16 * (Prod.snd (Prod.snd (List.getD l1 (n5.toNat) (0, 0, 0))) - 2) + Prod.fst (Prod.snd (List.getD l1 (n5.toNat) (0, 0, 0))) ∧ 128 + 16 * (Prod.snd (Prod.snd (List.getD l1 (n5.toNat) (0, 0, 0))) - 2) +
 Prod.fst (Prod.snd (List.getD l1 (n5.toNat) (0, 0, 0))) ≤ (9223372036854775807 : Int)) ∧ ((-9223372036854775808 : Int) ≤ 128 + 16 * (Prod.snd (Prod.snd (List.getD l1 (n5.toNat) (0, 0, 0))) - 2) + Prod.fst (Prod.snd (List.getD l1 (n5.toNat)
 (0, 0, 0))) - 1 ∧ 128 + 16 * (Prod.snd (Prod.snd (List.getD l1 (n5.toNat) (0, 0, 0))) - 2) + Prod.fst (Prod.snd (List.getD l1 (n5.toNat) (0, 0, 0))) - (1 : Int) ≤ (9223372036854775807 : Int)) ∧ (↑(l4.length + List.length [128 + 16 *
 (Prod.snd (Prod.snd (List.getD l1 (n5.toNat) (0, 0, 0))) - 2) + Prod.fst (Prod.snd (List.getD l1 (n5.toNat) (0, 0, 0))) - 1]) : Int) ≤ 1099511627776 ∧ (-9223372036854775808 ≤ n5 + 1 ∧ n5 + (1 : Int) ≤ (9223372036854775807 : Int)) ∧ I2 (l4 ++
 [128 + 16 * (Prod.snd (Prod.snd (List.getD l1 (n5.toNat) (0, 0, 0))) - 2) + Prod.fst (Prod.snd (List.getD l1 (n5.toNat) (0, 0, 0))) - 1]) (n5 + 1) ∧ m3 (l4 ++ [128 + 16 * (Prod.snd (Prod.snd (List.getD l1 (n5.toNat) (0, 0, 0))) - 2) +
 Prod.fst (Prod.snd (List.getD l1 (n5.toNat) (0, 0, 0))) - 1]) (n5 + 1) < m3 l4 n5)) ∧ (¬n5 < (l1.length : Int) → l4 = 3 :: (↑(List.length (parseD l0)) : Int) :: List.map tokByte (parseD l0))
theorem v_s_l21Tokens : V_s_l21Tokens := by
  unfold V_s_l21Tokens
  intro l hv
  have hl := LV_len hv
  refine ⟨by omega, ?_⟩
  rintro xs ⟨rfl, h40⟩
  refine ⟨fun o i => 0 ≤ i ∧ i ≤ (parseD l).length ∧ o = 3 :: ((parseD l).length : Int) :: ((parseD l).take i.toNat).map tokByte, fun o i => (((parseD l).length : Int) - i).toNat, ?_, ?_⟩ <;> dsimp only
  · exact ⟨by omega, by omega, rfl⟩
  rintro o i ⟨i0, i1, rfl⟩
  refine ⟨fun hlt => ⟨i0, hlt, by omega, fun h0 => ?_, fun h0 => ?_⟩, fun hge => by rw [take_ge hge]⟩
  · have hst := toks_step i0 hlt
    have htl := len_take (l := parseD l) i0 i1
    rw [tokByte_sym (tokByte_at i0 hlt) (.inl h0)] at hst
    exact ⟨by simp only [List.length_cons, List.length_nil, List.length_map]; omega, by omega, ⟨by omega, by omega, by rw [hst]; simp⟩, by omega⟩
  · have hst := toks_step i0 hlt
    have htl := len_take (l := parseD l) i0 i1
    obtain ⟨q1, q2, q3, q4, q5⟩ := tokByte_match (tokByte_at i0 hlt) (.inl h0)
    rw [q1] at hst
    exact ⟨by omega, by omega, by omega, by omega, by omega, by simp only [List.length_cons, List.length_nil, List.length_map]; omega, by omega, ⟨by omega, by omega, by rw [hst]; simp⟩, by omega⟩
def V_s_l21As : Prop :=
  ∀ (l0 : List Int) (n1 : Int), LV l0 = true ∧ 0 ≤ n1 ∧ n1 ≤ 3 ∧ (n1 = 2 → 0 < (l0.length : Int)) → (n1 = 1 → LV l0 = true ∧ ∀ (l2 : List Int), l2 = 1 :: (↑(List.length (runs l0)) : Int) :: flatR (runs l0) → some l2 = blockAs l0 n1) ∧ (¬n1 = 1
 → (n1 = 2 → (LV l0 = true ∧ 0 < (l0.length : Int)) ∧ ∀ (l3 : List Int), l3 = 2 :: (l0.length : Int) :: (lens4 (lensF l0) ++ bytesOf (enc (lensF l0) l0)) → some l3 = blockAs l0 n1) ∧ (¬n1 = 2 → (n1 = 3 → LV l0 = true ∧ ∀ (l4 : List Int), l4 =
 3 :: (↑(List.length (parseD l0)) : Int) :: List.map tokByte (parseD l0) → some l4 = blockAs l0 n1) ∧ (¬n1 = 3 → (↑(List.length [0, (l0.length : Int)] + l0.length) : Int) ≤ 1099511627776 ∧ some ([0, (l0.length : Int)] ++ l0) = blockAs l0
 n1)))
theorem v_s_l21As : V_s_l21As := by
  unfold V_s_l21As
  rintro l w ⟨hv, w0, w3, w2⟩
  have hl := LV_len hv
  refine ⟨fun h1 => ⟨hv, ?_⟩, fun h1 => ⟨fun h2 => ⟨⟨hv, w2 h2⟩, ?_⟩, fun h2 => ⟨fun h3 => ⟨hv, ?_⟩, fun h3 => ⟨by simp; omega, ?_⟩⟩⟩⟩
  · rintro r rfl; subst h1; exact (blockAs_1 hv).symm
  · rintro r rfl; subst h2; exact (blockAs_2 hv (by have := w2 rfl; omega)).symm
  · rintro r rfl; subst h3; exact (blockAs_3 hv).symm
  · obtain rfl : w = 0 := by omega
    exact (blockAs_0 hv).symm
def V_s_BlockAs : Prop :=
  ∀ (l0 : List Int) (n1 : Int), (l0.length : Int) ≤ 1099511627776 → (l0.length : Int) ≤ 1099511627776 ∧ (true = LV l0 → True ∧ (true = decide (0 ≤ n1 ∧ n1 ≤ 3) → (n1 = 2 → ((l0.length : Int) = 0 → false = Option.isSome (blockAs l0 n1) ∧ [] =
 Option.getD (blockAs l0 n1) [] ∧ (↑0 : Int) ≤ 82) ∧ (¬(l0.length : Int) = 0 → (LV l0 = true ∧ 0 ≤ n1 ∧ n1 ≤ 3 ∧ (n1 = 2 → 0 < (l0.length : Int))) ∧ ∀ (l2 : List Int), some l2 = blockAs l0 n1 → true = Option.isSome (blockAs l0 n1) ∧ l2 =
 Option.getD (blockAs l0 n1) [] ∧ (l2.length : Int) ≤ 82)) ∧ (¬n1 = 2 → (LV l0 = true ∧ 0 ≤ n1 ∧ n1 ≤ 3 ∧ (n1 = 2 → 0 < (l0.length : Int))) ∧ ∀ (l3 : List Int), some l3 = blockAs l0 n1 → true = Option.isSome (blockAs l0 n1) ∧ l3 = Option.getD
 (blockAs l0 n1) [] ∧ (l3.length : Int) ≤ 82)) ∧ (false = decide (0 ≤ n1 ∧ n1 ≤ 3) → false = Option.isSome (blockAs l0 n1) ∧ [] = Option.getD (blockAs l0 n1) [] ∧ (↑0 : Int) ≤ 82)) ∧ (false = LV l0 → false = Option.isSome (blockAs l0 n1) ∧ []
 = Option.getD (blockAs l0 n1) [] ∧ (↑0 : Int) ≤ 82)
theorem v_s_BlockAs : V_s_BlockAs := by
  unfold V_s_BlockAs
  intro l w hz
  have fin : ∀ r, some r = blockAs l w → true = (blockAs l w).isSome ∧ r = (blockAs l w).getD [] ∧ ((r.length : Nat) : Int) ≤ 82 := fun r h => by
    rw [← h]; have := block_facts h.symm; exact ⟨rfl, rfl, by omega⟩
  have non : blockAs l w = none → false = (blockAs l w).isSome ∧ [] = (blockAs l w).getD [] ∧ ((0 : Nat) : Int) ≤ 82 := fun h => by rw [h]; exact ⟨rfl, rfl, by omega⟩
  refine ⟨hz, fun hv => ⟨trivial, fun hw => ⟨fun w2 => ⟨fun h0 => non (by rw [w2]; exact blockAs_2e h0), fun h0 => ⟨?_, fin⟩⟩, fun w2 => ⟨?_, fin⟩⟩, fun hw => non (blockAs_none (fun q => by rw [decide_eq_true q] at hw; cases hw))⟩, fun hv => non (blockAs_no (by rw [← hv]; simp) w)⟩
  · simp only [true_eq_decide_iff] at hw
    exact ⟨hv.symm, hw.1, hw.2, fun _ => by omega⟩
  · simp only [true_eq_decide_iff] at hw
    exact ⟨hv.symm, hw.1, hw.2, fun q => absurd q w2⟩
def V_i_BlockAs : Prop :=
  ∀ (l0 : List Int) (n1 : Int), (l0.length : Int) ≤ 1099511627776 → (l0.length : Int) ≤ 1099511627776 ∧ (true = LV l0 → (n1 = 0 → (↑(List.length [n1] + List.length [(l0.length : Int)]) : Int) ≤ 1099511627776 ∧ (↑(List.length ([n1] ++
 [(l0.length : Int)]) + l0.length) : Int) ≤ 1099511627776 ∧ true = Option.isSome (blockAs l0 n1) ∧ [n1] ++ [(l0.length : Int)] ++ l0 = Option.getD (blockAs l0 n1) [] ∧ (↑(List.length ([n1] ++ [(l0.length : Int)] ++ l0)) : Int) ≤ 82) ∧ (¬n1 =
 0 → (n1 = 1 → (l0.length : Int) ≤ 1099511627776 ∧ ∀ (l2 : List (Int × Int)), l2 = runsD l0 ∧ (l2.length : Int) ≤ 40 → (↑(List.length [n1] + List.length [(l2.length : Int)]) : Int) ≤ 1099511627776 ∧ ∃ (I3 : List Int → Int → Prop), ∃ (m4 :
 List Int → Int → Nat), I3 ([n1] ++ [(l2.length : Int)]) 0 ∧ ∀ (l5 : List Int) (n6 : Int), I3 l5 n6 → (n6 < (l2.length : Int) → 0 ≤ n6 ∧ n6 < (l2.length : Int) ∧ n6.toNat < l2.length ∧ (↑(l5.length + List.length [Prod.fst (List.getD l2
 (n6.toNat) (0, 0)), Prod.snd (List.getD l2 (n6.toNat) (0, 0))]) : Int) ≤ 1099511627776 ∧ (-9223372036854775808 ≤ n6 + 1 ∧ n6 + (1 : Int) ≤ (9223372036854775807 : Int)) ∧ I3 (l5 ++ [Prod.fst (List.getD l2 (n6.toNat) (0, 0)), Prod.snd
 (List.getD l2 (n6.toNat) (0, 0))]) (n6 + 1) ∧ m4 (l5 ++ [Prod.fst (List.getD l2 (n6.toNat) (0, 0)), Prod.snd (List.getD l2 (n6.toNat) (0, 0))]) (n6 + 1) < m4 l5 n6) ∧ (¬n6 < (l2.length : Int) → true = Option.isSome (blockAs l0 n1) ∧ l5 =
 Option.getD (blockAs l0 n1) [] ∧ (l5.length : Int) ≤ 82)) ∧ (¬n1 = 1 → (n1 = 2 → ((l0.length : Int) = 0 → false = Option.isSome (blockAs l0 n1) ∧ [] = Option.getD (blockAs l0 n1) [] ∧ (↑0 : Int) ≤ 82) ∧ (¬(l0.length : Int) = 0 → LV l0 = true
 ∧ ∀ (l7 : List Int), l7 = countsL l0 → (l7.length : Int) ≤ 1099511627776 ∧ ∀ (l8 : List Int), (true = Option.isSome (lengthsD l7) ∧ l8 = Option.getD (lengthsD l7) [] → ((l0.length : Int) ≤ 1099511627776 ∧ (l8.length : Int) ≤ 1099511627776) ∧
 ∀ (l9 : List Int), (true = Option.isSome (encD l0 l8) ∧ l9 = Option.getD (encD l0 l8) [] → (l9.length : Int) ≤ 1099511627776 ∧ ∀ (l10 : List Int), ((true = bitsIn l9 ∧ l10 = if bitsIn l9 = true then bytesOf l9 else []) → (↑(List.length [n1]
 + List.length [(l0.length : Int)]) : Int) ≤ 1099511627776 ∧ ∃ (I11 : List Int → Int → Prop), ∃ (m12 : List Int → Int → Nat), I11 ([n1] ++ [(l0.length : Int)]) 0 ∧ ∀ (l13 : List Int) (n14 : Int), I11 l13 n14 → (n14 < 8 → 0 ≤ n14 ∧ n14 <
 (l8.length : Int) ∧ n14.toNat < l8.length ∧ ((-9223372036854775808 : Int) ≤ 16 * List.getD l8 (n14.toNat) 0 ∧ 16 * List.getD l8 (n14.toNat) (0 : Int) ≤ (9223372036854775807 : Int)) ∧ (-9223372036854775808 ≤ n14 + 1 ∧ n14 + (1 : Int) ≤
 (9223372036854775807 : Int)) ∧ 0 ≤ n14 + 1 ∧ n14 + 1 < (l8.length : Int) ∧ Int.toNat (n14 + 1) < l8.length ∧ ((-9223372036854775808 : Int) ≤ 16 * List.getD l8 (n14.toNat) 0 + List.getD l8 (Int.toNat (n14 + 1)) 0 ∧ 16 * List.getD l8
 (n14.toNat) 0 + List.getD l8 (Int.toNat (n14 + 1)) (0 : Int) ≤ (9223372036854775807 : Int)) ∧ (↑(l13.length + List.length [16 * List.getD l8 (n14.toNat) 0 + List.getD l8 (Int.toNat (n14 + 1)) 0]) : Int) ≤ 1099511627776 ∧
 (-9223372036854775808 ≤ n14 + 2 ∧ n14 + (2 : Int) ≤ (9223372036854775807 : Int)) ∧ I11 (l13 ++ [16 * List.getD l8 (n14.toNat) 0 + List.getD l8 (Int.toNat (n14 + 1)) 0]) (n14 + 2) ∧ m12 (l13 ++ [16 * List.getD l8 (n14.toNat) 0 + List.getD l8
 (Int.toNat (n14 + 1)) 0]) (n14 + 2) < m12 l13 n14) ∧ (¬n14 < 8 → (↑(l13.length + l10.length) : Int) ≤ 1099511627776 ∧ true = Option.isSome (blockAs l0 n1) ∧ l13 ++ l10 = Option.getD (blockAs l0 n1) [] ∧ (↑(List.length (l13 ++ l10)) : Int) ≤
 82)) ∧ ((false = bitsIn l9 ∧ l10 = if bitsIn l9 = true then bytesOf l9 else []) → (↑(List.length [n1] + List.length [(l0.length : Int)]) : Int) ≤ 1099511627776 ∧ ∃ (I15 : List Int → Int → Prop), ∃ (m16 : List Int → Int → Nat), I15 ([n1] ++
 [(l0.length : Int)]) 0 ∧ ∀ (l17 : List Int) (n18 : Int), I15 l17 n18 → (n18 < 8 → 0 ≤ n18 ∧ n18 < (l8.length : Int) ∧ n18.toNat < l8.length ∧ ((-9223372036854775808 : Int) ≤ 16 * List.getD l8 (n18.toNat) 0 ∧ 16 * List.getD l8 (n18.toNat) (0
 : Int) ≤ (9223372036854775807 : Int)) ∧ (-9223372036854775808 ≤ n18 + 1 ∧ n18 + (1 : Int) ≤ (9223372036854775807 : Int)) ∧ 0 ≤ n18 + 1 ∧ n18 + 1 < (l8.length : Int) ∧ Int.toNat (n18 + 1) < l8.length ∧ ((-9223372036854775808 : Int) ≤ 16 *
 List.getD l8 (n18.toNat) 0 + List.getD l8 (Int.toNat (n18 + 1)) 0 ∧ 16 * List.getD l8 (n18.toNat) 0 + List.getD l8 (Int.toNat (n18 + 1)) (0 : Int) ≤ (9223372036854775807 : Int)) ∧ (↑(l17.length + List.length [16 * List.getD l8 (n18.toNat) 0
 + List.getD l8 (Int.toNat (n18 + 1)) 0]) : Int) ≤ 1099511627776 ∧ (-9223372036854775808 ≤ n18 + 2 ∧ n18 + (2 : Int) ≤ (9223372036854775807 : Int)) ∧ I15 (l17 ++ [16 * List.getD l8 (n18.toNat) 0 + List.getD l8 (Int.toNat (n18 + 1)) 0]) (n18 +
 2) ∧ m16 (l17 ++ [16 * List.getD l8 (n18.toNat) 0 + List.getD l8 (Int.toNat (n18 + 1)) 0]) (n18 + 2) < m16 l17 n18) ∧ (¬n18 < 8 → (↑(l17.length + l10.length) : Int) ≤ 1099511627776 ∧ true = Option.isSome (blockAs l0 n1) ∧ l17 ++ l10 =
 Option.getD (blockAs l0 n1) [] ∧ (↑(List.length (l17 ++ l10)) : Int) ≤ 82))) ∧ (false = Option.isSome (encD l0 l8) ∧ l9 = Option.getD (encD l0 l8) [] → (l9.length : Int) ≤ 1099511627776 ∧ ∀ (l19 : List Int), ((true = bitsIn l9 ∧ l19 = if
 bitsIn l9 = true then bytesOf l9 else []) → (↑(List.length [n1] + List.length [(l0.length : Int)]) : Int) ≤ 1099511627776 ∧ ∃ (I20 : List Int → Int → Prop), ∃ (m21 : List Int → Int → Nat), I20 ([n1] ++ [(l0.length : Int)]) 0 ∧ ∀ (l22 : List
 Int) (n23 : Int), I20 l22 n23 → (n23 < 8 → 0 ≤ n23 ∧ n23 < (l8.length : Int) ∧ n23.toNat < l8.length ∧ ((-9223372036854775808 : Int) ≤ 16 * List.getD l8 (n23.toNat) 0 ∧ 16 * List.getD l8 (n23.toNat) (0 : Int) ≤ (9223372036854775807 : Int)) ∧
 (-9223372036854775808 ≤ n23 + 1 ∧ n23 + (1 : Int) ≤ (9223372036854775807 : Int)) ∧ 0 ≤ n23 + 1 ∧ n23 + 1 < (l8.length : Int) ∧ Int.toNat (n23 + 1) < l8.length ∧ ((-9223372036854775808 : Int) ≤ 16 * List.getD l8 (n23.toNat) 0 + List.getD l8
 (Int.toNat (n23 + 1)) 0 ∧ 16 * List.getD l8 (n23.toNat) 0 + List.getD l8 (Int.toNat (n23 + 1)) (0 : Int) ≤ (9223372036854775807 : Int)) ∧ (↑(l22.length + List.length [16 * List.getD l8 (n23.toNat) 0 + List.getD l8 (Int.toNat (n23 + 1)) 0]) :
 Int) ≤ 1099511627776 ∧ (-9223372036854775808 ≤ n23 + 2 ∧ n23 + (2 : Int) ≤ (9223372036854775807 : Int)) ∧ I20 (l22 ++ [16 * List.getD l8 (n23.toNat) 0 + List.getD l8 (Int.toNat (n23 + 1)) 0]) (n23 + 2) ∧ m21 (l22 ++ [16 * List.getD l8
 (n23.toNat) 0 + List.getD l8 (Int.toNat (n23 + 1)) 0]) (n23 + 2) < m21 l22 n23) ∧ (¬n23 < 8 → (↑(l22.length + l19.length) : Int) ≤ 1099511627776 ∧ true = Option.isSome (blockAs l0 n1) ∧ l22 ++ l19 = Option.getD (blockAs l0 n1) [] ∧
 (↑(List.length (l22 ++ l19)) : Int) ≤ 82)) ∧ ((false = bitsIn l9 ∧ l19 = if bitsIn l9 = true then bytesOf l9 else []) → (↑(List.length [n1] + List.length [(l0.length : Int)]) : Int) ≤ 1099511627776 ∧ ∃ (I24 : List Int → Int → Prop), ∃ (m25 :
 List Int → Int → Nat), I24 ([n1] ++ [(l0.length : Int)]) 0 ∧ ∀ (l26 : List Int) (n27 : Int), I24 l26 n27 → (n27 < 8 → 0 ≤ n27 ∧ n27 < (l8.length : Int) ∧ n27.toNat < l8.length ∧ ((-9223372036854775808 : Int) ≤ 16 * List.getD l8 (n27.toNat) 0
 ∧ 16 * List.getD l8 (n27.toNat) (0 : Int) ≤ (9223372036854775807 : Int)) ∧ (-9223372036854775808 ≤ n27 + 1 ∧ n27 + (1 : Int) ≤ (9223372036854775807 : Int)) ∧ 0 ≤ n27 + 1 ∧ n27 + 1 < (l8.length : Int) ∧ Int.toNat (n27 + 1) < l8.length ∧
 ((-9223372036854775808 : Int) ≤ 16 * List.getD l8 (n27.toNat) 0 + List.getD l8 (Int.toNat (n27 + 1)) 0 ∧ 16 * List.getD l8 (n27.toNat) 0 + List.getD l8 (Int.toNat (n27 + 1)) (0 : Int) ≤ (9223372036854775807 : Int)) ∧ (↑(l26.length +
 List.length [16 * List.getD l8 (n27.toNat) 0 + List.getD l8 (Int.toNat (n27 + 1)) 0]) : Int) ≤ 1099511627776 ∧ (-9223372036854775808 ≤ n27 + 2 ∧ n27 + (2 : Int) ≤ (9223372036854775807 : Int)) ∧ I24 (l26 ++ [16 * List.getD l8 (n27.toNat) 0 +
 List.getD l8 (Int.toNat (n27 + 1)) 0]) (n27 + 2) ∧ m25 (l26 ++ [16 * List.getD l8 (n27.toNat) 0 + List.getD l8 (Int.toNat (n27 + 1)) 0]) (n27 + 2) < m25 l26 n27) ∧ (¬n27 < 8 → (↑(l26.length + l19.length) : Int) ≤ 1099511627776 ∧ true =
 Option.isSome (blockAs l0 n1) ∧ l26 ++ l19 = Option.getD (blockAs l0 n1) [] ∧ (↑(List.length (l26 ++ l19)) : Int) ≤ 82)))) ∧ (false = Option.isSome (lengthsD l7) ∧ l8 = Option.getD (lengthsD l7) [] → ((l0.length : Int) ≤ 1099511627776 ∧
 (l8.length : Int) ≤ 1099511627776) ∧ ∀ (l28 : List Int), (true = Option.isSome (encD l0 l8) ∧ l28 = Option.getD (encD l0 l8) [] → (l28.length : Int) ≤ 1099511627776 ∧ ∀ (l29 : List Int), ((true = bitsIn l28 ∧ l29 = if bitsIn l28 = true then
 bytesOf l28 else []) → (↑(List.length [n1] + List.length [(l0.length : Int)]) : Int) ≤ 1099511627776 ∧ ∃ (I30 : List Int → Int → Prop), ∃ (m31 : List Int → Int → Nat), I30 ([n1] ++ [(l0.length : Int)]) 0 ∧ ∀ (l32 : List Int) (n33 : Int), I30
 l32 n33 → (n33 < 8 → 0 ≤ n33 ∧ n33 < (l8.length : Int) ∧ n33.toNat < l8.length ∧ ((-9223372036854775808 : Int) ≤ 16 * List.getD l8 (n33.toNat) 0 ∧ 16 * List.getD l8 (n33.toNat) (0 : Int) ≤ (9223372036854775807 : Int)) ∧ (-9223372036854775808
 ≤ n33 + 1 ∧ n33 + (1 : Int) ≤ (9223372036854775807 : Int)) ∧ 0 ≤ n33 + 1 ∧ n33 + 1 < (l8.length : Int) ∧ Int.toNat (n33 + 1) < l8.length ∧ ((-9223372036854775808 : Int) ≤ 16 * List.getD l8 (n33.toNat) 0 + List.getD l8 (Int.toNat (n33 + 1)) 0
 ∧ 16 * List.getD l8 (n33.toNat) 0 + List.getD l8 (Int.toNat (n33 + 1)) (0 : Int) ≤ (9223372036854775807 : Int)) ∧ (↑(l32.length + List.length [16 * List.getD l8 (n33.toNat) 0 + List.getD l8 (Int.toNat (n33 + 1)) 0]) : Int) ≤ 1099511627776 ∧
 (-9223372036854775808 ≤ n33 + 2 ∧ n33 + (2 : Int) ≤ (9223372036854775807 : Int)) ∧ I30 (l32 ++ [16 * List.getD l8 (n33.toNat) 0 + List.getD l8 (Int.toNat (n33 + 1)) 0]) (n33 + 2) ∧ m31 (l32 ++ [16 * List.getD l8 (n33.toNat) 0 + List.getD l8
 (Int.toNat (n33 + 1)) 0]) (n33 + 2) < m31 l32 n33) ∧ (¬n33 < 8 → (↑(l32.length + l29.length) : Int) ≤ 1099511627776 ∧ true = Option.isSome (blockAs l0 n1) ∧ l32 ++ l29 = Option.getD (blockAs l0 n1) [] ∧ (↑(List.length (l32 ++ l29)) : Int) ≤
 82)) ∧ ((false = bitsIn l28 ∧ l29 = if bitsIn l28 = true then bytesOf l28 else []) → (↑(List.length [n1] + List.length [(l0.length : Int)]) : Int) ≤ 1099511627776 ∧ ∃ (I34 : List Int → Int → Prop), ∃ (m35 : List Int → Int → Nat), I34 ([n1]
 ++ [(l0.length : Int)]) 0 ∧ ∀ (l36 : List Int) (n37 : Int), I34 l36 n37 → (n37 < 8 → 0 ≤ n37 ∧ n37 < (l8.length : Int) ∧ n37.toNat < l8.length ∧ ((-9223372036854775808 : Int) ≤ 16 * List.getD l8 (n37.toNat) 0 ∧ 16 * List.getD l8 (n37.toNat)
 (0 : Int) ≤ (9223372036854775807 : Int)) ∧ (-9223372036854775808 ≤ n37 + 1 ∧ n37 + (1 : Int) ≤ (9223372036854775807 : Int)) ∧ 0 ≤ n37 + 1 ∧ n37 + 1 < (l8.length : Int) ∧ Int.toNat (n37 + 1) < l8.length ∧ ((-9223372036854775808 : Int) ≤ 16 *
 List.getD l8 (n37.toNat) 0 + List.getD l8 (Int.toNat (n37 + 1)) 0 ∧ 16 * List.getD l8 (n37.toNat) 0 + List.getD l8 (Int.toNat (n37 + 1)) (0 : Int) ≤ (9223372036854775807 : Int)) ∧ (↑(l36.length + List.length [16 * List.getD l8 (n37.toNat) 0
 + List.getD l8 (Int.toNat (n37 + 1)) 0]) : Int) ≤ 1099511627776 ∧ (-9223372036854775808 ≤ n37 + 2 ∧ n37 + (2 : Int) ≤ (9223372036854775807 : Int)) ∧ I34 (l36 ++ [16 * List.getD l8 (n37.toNat) 0 + List.getD l8 (Int.toNat (n37 + 1)) 0]) (n37 +
 2) ∧ m35 (l36 ++ [16 * List.getD l8 (n37.toNat) 0 + List.getD l8 (Int.toNat (n37 + 1)) 0]) (n37 + 2) < m35 l36 n37) ∧ (¬n37 < 8 → (↑(l36.length + l29.length) : Int) ≤ 1099511627776 ∧ true = Option.isSome (blockAs l0 n1) ∧ l36 ++ l29 =
 Option.getD (blockAs l0 n1) [] ∧ (↑(List.length (l36 ++ l29)) : Int) ≤ 82))) ∧ (false = Option.isSome (encD l0 l8) ∧ l28 = Option.getD (encD l0 l8) [] → (l28.length : Int) ≤ 1099511627776 ∧ ∀ (l38 : List Int), ((true = bitsIn l28 ∧ l38 = if
 bitsIn l28 = true then bytesOf l28 else []) → (↑(List.length [n1] + List.length [(l0.length : Int)]) : Int) ≤ 1099511627776 ∧ ∃ (I39 : List Int → Int → Prop), ∃ (m40 : List Int → Int → Nat), I39 ([n1] ++ [(l0.length : Int)]) 0 ∧ ∀ (l41 :
 List Int) (n42 : Int), I39 l41 n42 → (n42 < 8 → 0 ≤ n42 ∧ n42 < (l8.length : Int) ∧ n42.toNat < l8.length ∧ ((-9223372036854775808 : Int) ≤ 16 * List.getD l8 (n42.toNat) 0 ∧ 16 * List.getD l8 (n42.toNat) (0 : Int) ≤ (9223372036854775807 :
 Int)) ∧ (-9223372036854775808 ≤ n42 + 1 ∧ n42 + (1 : Int) ≤ (9223372036854775807 : Int)) ∧ 0 ≤ n42 + 1 ∧ n42 + 1 < (l8.length : Int) ∧ Int.toNat (n42 + 1) < l8.length ∧ ((-9223372036854775808 : Int) ≤ 16 * List.getD l8 (n42.toNat) 0 +
 List.getD l8 (Int.toNat (n42 + 1)) 0 ∧ 16 * List.getD l8 (n42.toNat) 0 + List.getD l8 (Int.toNat (n42 + 1)) (0 : Int) ≤ (9223372036854775807 : Int)) ∧ (↑(l41.length + List.length [16 * List.getD l8 (n42.toNat) 0 + List.getD l8 (Int.toNat
 (n42 + 1)) 0]) : Int) ≤ 1099511627776 ∧ (-9223372036854775808 ≤ n42 + 2 ∧ n42 + (2 : Int) ≤ (9223372036854775807 : Int)) ∧ I39 (l41 ++ [16 * List.getD l8 (n42.toNat) 0 + List.getD l8 (Int.toNat (n42 + 1)) 0]) (n42 + 2) ∧ m40 (l41 ++ [16 *
 List.getD l8 (n42.toNat) 0 + List.getD l8 (Int.toNat (n42 + 1)) 0]) (n42 + 2) < m40 l41 n42) ∧ (¬n42 < 8 → (↑(l41.length + l38.length) : Int) ≤ 1099511627776 ∧ true = Option.isSome (blockAs l0 n1) ∧ l41 ++ l38 = Option.getD (blockAs l0 n1)
 [] ∧ (↑(List.length (l41 ++ l38)) : Int) ≤ 82)) ∧ ((false = bitsIn l28 ∧ l38 = if bitsIn l28 = true then bytesOf l28 else []) → (↑(List.length [n1] + List.length [(l0.length : Int)]) : Int) ≤ 1099511627776 ∧ ∃ (I43 : List Int → Int → Prop),
 ∃ (m44 : List Int → Int → Nat), I43 ([n1] ++ [(l0.length : Int)]) 0 ∧ ∀ (l45 : List Int) (n46 : Int), I43 l45 n46 → (n46 < 8 → 0 ≤ n46 ∧ n46 < (l8.length : Int) ∧ n46.toNat < l8.length ∧ ((-9223372036854775808 : Int) ≤ 16 * List.getD l8
 (n46.toNat) 0 ∧ 16 * List.getD l8 (n46.toNat) (0 : Int) ≤ (9223372036854775807 : Int)) ∧ (-9223372036854775808 ≤ n46 + 1 ∧ n46 + (1 : Int) ≤ (9223372036854775807 : Int)) ∧ 0 ≤ n46 + 1 ∧ n46 + 1 < (l8.length : Int) ∧ Int.toNat (n46 + 1) <
 l8.length ∧ ((-9223372036854775808 : Int) ≤ 16 * List.getD l8 (n46.toNat) 0 + List.getD l8 (Int.toNat (n46 + 1)) 0 ∧ 16 * List.getD l8 (n46.toNat) 0 + List.getD l8 (Int.toNat (n46 + 1)) (0 : Int) ≤ (9223372036854775807 : Int)) ∧
 (↑(l45.length + List.length [16 * List.getD l8 (n46.toNat) 0 + List.getD l8 (Int.toNat (n46 + 1)) 0]) : Int) ≤ 1099511627776 ∧ (-9223372036854775808 ≤ n46 + 2 ∧ n46 + (2 : Int) ≤ (9223372036854775807 : Int)) ∧ I43 (l45 ++ [16 * List.getD l8
 (n46.toNat) 0 + List.getD l8 (Int.toNat (n46 + 1)) 0]) (n46 + 2) ∧ m44 (l45 ++ [16 * List.getD l8 (n46.toNat) 0 + List.getD l8 (Int.toNat (n46 + 1)) 0]) (n46 + 2) < m44 l45 n46) ∧ (¬n46 < 8 → (↑(l45.length + l38.length) : Int) ≤
 1099511627776 ∧ true = Option.isSome (blockAs l0 n1) ∧ l45 ++ l38 = Option.getD (blockAs l0 n1) [] ∧ (↑(List.length (l45 ++ l38)) : Int) ≤ 82)))))) ∧ (¬n1 = 2 → (n1 = 3 → (l0.length : Int) ≤ 1099511627776 ∧ ∀ (l47 : List (Int × Int × Int)),
 l47 = parseD l0 ∧ (l47.length : Int) ≤ 40 → (↑(List.length [n1] + List.length [(l47.length : Int)]) : Int) ≤ 1099511627776 ∧ ∃ (I48 : List Int → Int → Prop), ∃ (m49 : List Int → Int → Nat), I48 ([n1] ++ [(l47.length : Int)]) 0 ∧ ∀ (l50 :
 List Int) (n51 : Int), I48 l50 n51 → (n51 < (l47.length : Int) → 0 ≤ n51 ∧ n51 < (l47.length : Int) ∧ n51.toNat < l47.length ∧ (Prod.snd (Prod.snd (List.getD l47 (n51.toNat) (0, 0, 0))) = 0 → (↑(l50.length + List.length [Prod.fst (List.getD
 l47 (n51.toNat) (0, 0, 0))]) : Int) ≤ 1099511627776 ∧ (-9223372036854775808 ≤ n51 + 1 ∧ n51 + (1 : Int) ≤ (9223372036854775807 : Int)) ∧ I48 (l50 ++ [Prod.fst (List.getD l47 (n51.toNat) (0, 0, 0))]) (n51 + 1) ∧ m49 (l50 ++ [Prod.fst
 (List.getD l47 (n51.toNat) (0, 0, 0))]) (n51 + 1) < m49 l50 n51) ∧ (¬Prod.snd (Prod.snd (List.getD l47 (n51.toNat) (0, 0, 0))) = 0 → (-9223372036854775808 ≤ Prod.snd (Prod.snd (List.getD l47 (n51.toNat) (0, 0, 0))) - 2 ∧ Prod.snd (Prod.snd
 (List.getD l47 (n51.toNat) (0, 0, 0))) - (2 : Int) ≤ (9223372036854775807 : Int)) ∧ ((-9223372036854775808 : Int) ≤ 16 * (Prod.snd (Prod.snd (List.getD l47 (n51.toNat) (0, 0, 0))) - 2) ∧ 16 * (Prod.snd (Prod.snd (List.getD l47 (n51.toNat)
 (0, 0, 0))) - 2) ≤ (9223372036854775807 : Int)) ∧ ((-9223372036854775808 : Int) ≤ 128 + 16 * (Prod.snd (Prod.snd (List.getD l47 (n51.toNat) (0, 0, 0))) - 2) ∧ 128 + 16 * (Prod.snd (Prod.snd (List.getD l47 (n51.toNat) (0, 0, 0))) - 2) ≤
 (9223372036854775807 : Int)) ∧ ((-9223372036854775808 : Int) ≤ 128 + 16 * (Prod.snd (Prod.snd (List.getD l47 (n51.toNat) (0, 0, 0))) - 2) + Prod.fst (Prod.snd (List.getD l47 (n51.toNat) (0, 0, 0))) ∧ 128 + 16 * (Prod.snd (Prod.snd (List.getD
 l47 (n51.toNat) (0, 0, 0))) - 2) + Prod.fst (Prod.snd (List.getD l47 (n51.toNat) (0, 0, 0))) ≤ (9223372036854775807 : Int)) ∧ ((-9223372036854775808 : Int) ≤ 128 + 16 * (Prod.snd (Prod.snd (List.getD l47 (n51.toNat) (0, 0, 0))) - 2) +
 Prod.fst (Prod.snd (List.getD l47 (n51.toNat) (0, 0, 0))) - 1 ∧ 128 + 16 * (Prod.snd (Prod.snd (List.getD l47 (n51.toNat) (0, 0, 0))) - 2) + Prod.fst (Prod.snd (List.getD l47 (n51.toNat) (0, 0, 0))) - (1 : Int) ≤ (9223372036854775807 : Int))
 ∧ (↑(l50.length + List.length [128 + 16 * (Prod.snd (Prod.snd (List.getD l47 (n51.toNat) (0, 0, 0))) - 2) + Prod.fst (Prod.snd (List.getD l47 (n51.toNat) (0, 0, 0))) - 1]) : Int) ≤ 1099511627776 ∧ (-9223372036854775808 ≤ n51 + 1 ∧ n51 + (1 :
 Int) ≤ (9223372036854775807 : Int)) ∧ I48 (l50 ++ [128 + 16 * (Prod.snd (Prod.snd (List.getD l47 (n51.toNat) (0, 0, 0))) - 2) + Prod.fst (Prod.snd (List.getD l47 (n51.toNat) (0, 0, 0))) - 1]) (n51 + 1) ∧ m49 (l50 ++ [128 + 16 * (Prod.snd
 (Prod.snd (List.getD l47 (n51.toNat) (0, 0, 0))) - 2) + Prod.fst (Prod.snd (List.getD l47 (n51.toNat) (0, 0, 0))) - 1]) (n51 + 1) < m49 l50 n51)) ∧ (¬n51 < (l47.length : Int) → true = Option.isSome (blockAs l0 n1) ∧ l50 = Option.getD
 (blockAs l0 n1) [] ∧ (l50.length : Int) ≤ 82)) ∧ (¬n1 = 3 → false = Option.isSome (blockAs l0 n1) ∧ [] = Option.getD (blockAs l0 n1) [] ∧ (↑0 : Int) ≤ 82))))) ∧ (false = LV l0 → false = Option.isSome (blockAs l0 n1) ∧ [] = Option.getD
 (blockAs l0 n1) [] ∧ (↑0 : Int) ≤ 82)
theorem v_i_BlockAs : V_i_BlockAs := by
  unfold V_i_BlockAs
  intro l w hz
  have fin : ∀ r, blockAs l w = some r → true = (blockAs l w).isSome ∧ r = (blockAs l w).getD [] ∧ ((r.length : Nat) : Int) ≤ 82 := fun r h => by
    rw [h]; have := block_facts h; exact ⟨rfl, rfl, by omega⟩
  have non : blockAs l w = none → false = (blockAs l w).isSome ∧ [] = (blockAs l w).getD [] ∧ ((0 : Nat) : Int) ≤ 82 := fun h => by rw [h]; exact ⟨rfl, rfl, by omega⟩
  refine ⟨hz, fun hv => ?_, fun hv => non (blockAs_no (by rw [← hv]; simp) w)⟩
  replace hv := hv.symm
  have hl := LV_len hv
  refine ⟨fun w0 => ?_, fun w0 => ⟨fun w1 => ⟨hz, ?_⟩, fun w1 => ⟨fun w2 => ⟨fun h0 => non (by rw [w2]; exact blockAs_2e h0), fun h0 => ⟨hv, ?_⟩⟩, fun w2 => ⟨fun w3 => ⟨hz, ?_⟩, fun w3 => non (blockAs_none (by omega))⟩⟩⟩⟩
  · subst w0
    exact ⟨by simp, by simp; omega, fin _ (blockAs_0 hv)⟩
  · subst w1
    have hD : runsD l = runs l := if_pos hv
    rw [hD]
    rintro rs ⟨rfl, h40⟩
    refine ⟨by simp, ?_⟩
    refine ⟨fun o i => 0 ≤ i ∧ i ≤ (runs l).length ∧ o = 1 :: ((runs l).length : Int) :: flatR ((runs l).take i.toNat), fun o i => (((runs l).length : Int) - i).toNat, ?_, ?_⟩ <;> dsimp only
    · exact ⟨by omega, by omega, rfl⟩
    rintro o i ⟨i0, i1, rfl⟩
    refine ⟨fun hlt => ?_, fun hge => by rw [take_ge hge]; exact fin _ (blockAs_1 hv)⟩
    have hst := flatR_step i0 hlt
    have hfl := flatR_len ((runs l).take i.toNat)
    have htl := len_take (l := runs l) i0 i1
    exact ⟨i0, hlt, by omega, by simp only [List.length_cons, List.length_nil]; omega, by omega, ⟨by omega, by omega, by rw [hst]; simp⟩, by omega⟩
  · subst w2
    obtain ⟨hL, hE, hB, h320, h8, h88, h40⟩ := encD_list hv h0
    rintro cs rfl
    rw [hL]
    refine ⟨by rw [countsL_len]; omega, fun ls => ⟨?_, ?_⟩⟩
    · rintro ⟨_, hls⟩
      simp only [Option.getD_some] at hls
      subst hls
      rw [hE]
      refine ⟨⟨by omega, by omega⟩, fun bs => ⟨?_, ?_⟩⟩
      · rintro ⟨_, hbs⟩
        simp only [Option.getD_some] at hbs
        subst hbs
        rw [hB]
        refine ⟨by omega, fun by_ => ⟨?_, ?_⟩⟩
        · rintro ⟨_, rfl⟩
          rw [if_pos rfl]
          refine ⟨by simp, ?_⟩
          refine ⟨fun o n => 0 ≤ n ∧ n ≤ 8 ∧ n % 2 = 0 ∧ o = 2 :: (l.length : Int) :: (lens4 (lensF l)).take (n / 2).toNat, fun o n => (8 - n).toNat, ?_, ?_⟩ <;> dsimp only
          · exact ⟨by omega, by omega, by omega, rfl⟩
          rintro o n ⟨n0, n1, n2, rfl⟩
          have htl : ((lens4 (lensF l)).take (n / 2).toNat).length ≤ 4 := by simp only [List.length_take, lens4, List.length_cons, List.length_nil]; omega
          refine ⟨fun hlt => ?_, fun hge => ?_⟩
          · have a1 := h88 _ (at_mem n0 (by omega : n < ((lensF l).length : Int)))
            have a2 := h88 _ (at_mem (by omega : 0 ≤ n + 1) (by omega : n + 1 < ((lensF l).length : Int)))
            have hst := lens_step (lensF l) n0 hlt n2
            exact ⟨n0, by omega, by omega, by omega, by omega, by omega, by omega, by omega, by omega, by simp only [List.length_cons, List.length_nil]; omega, by omega, ⟨by omega, by omega, by omega, by rw [hst]; simp⟩, by omega⟩
          · rw [lens_take _ hge]
            exact ⟨by simp only [List.length_cons, lens4, List.length_nil]; omega, fin _ (by rw [blockAs_2 hv h0]; simp)⟩
        · rintro ⟨q, _⟩; cases q
      · rintro ⟨q, _⟩; cases q
    · rintro ⟨q, _⟩; cases q
  · subst w3
    rintro xs ⟨rfl, h40⟩
    refine ⟨by simp, ?_⟩
    refine ⟨fun o i => 0 ≤ i ∧ i ≤ (parseD l).length ∧ o = 3 :: ((parseD l).length : Int) :: ((parseD l).take i.toNat).map tokByte, fun o i => (((parseD l).length : Int) - i).toNat, ?_, ?_⟩ <;> dsimp only
    · exact ⟨by omega, by omega, rfl⟩
    rintro o i ⟨i0, i1, rfl⟩
    refine ⟨fun hlt => ⟨i0, hlt, by omega, fun h0 => ?_, fun h0 => ?_⟩, fun hge => by rw [take_ge hge]; exact fin _ (blockAs_3 hv)⟩
    · have hst := toks_step i0 hlt
      have htl := len_take (l := parseD l) i0 i1
      rw [tokByte_sym (tokByte_at i0 hlt) (.inr h0)] at hst
      exact ⟨by simp only [List.length_cons, List.length_nil, List.length_map]; omega, by omega, ⟨by omega, by omega, by rw [hst]; simp⟩, by omega⟩
    · have hst := toks_step i0 hlt
      have htl := len_take (l := parseD l) i0 i1
      obtain ⟨q1, q2, q3, q4, q5⟩ := tokByte_match (tokByte_at i0 hlt) (.inr h0)
      rw [q1] at hst
      exact ⟨by omega, by omega, by omega, by omega, by omega, by simp only [List.length_cons, List.length_nil, List.length_map]; omega, by omega, ⟨by omega, by omega, by rw [hst]; simp⟩, by omega⟩
def V_s_BlockPack : Prop :=
  ∀ (l0 : List Int), (l0.length : Int) ≤ 1099511627776 → (l0.length : Int) ≤ 1099511627776 ∧ ∀ (l1 : List Int), (true = Option.isSome (blockAs l0 0) ∧ l1 = Option.getD (blockAs l0 0) [] ∧ (l1.length : Int) ≤ 82 → ∃ (I2 : List Int → Int →
 Prop), ∃ (m3 : List Int → Int → Nat), I2 l1 1 ∧ ∀ (l4 : List Int) (n5 : Int), I2 l4 n5 → (n5 ≤ 3 → (l0.length : Int) ≤ 1099511627776 ∧ ∀ (l6 : List Int), (true = Option.isSome (blockAs l0 n5) ∧ l6 = Option.getD (blockAs l0 n5) [] ∧
 (l6.length : Int) ≤ 82 → ((l6.length : Int) < (l4.length : Int) → (-9223372036854775808 ≤ n5 + 1 ∧ n5 + (1 : Int) ≤ (9223372036854775807 : Int)) ∧ I2 l6 (n5 + 1) ∧ m3 l6 (n5 + 1) < m3 l4 n5) ∧ (¬(l6.length : Int) < (l4.length : Int) →
 (-9223372036854775808 ≤ n5 + 1 ∧ n5 + (1 : Int) ≤ (9223372036854775807 : Int)) ∧ I2 l4 (n5 + 1) ∧ m3 l4 (n5 + 1) < m3 l4 n5)) ∧ (false = Option.isSome (blockAs l0 n5) ∧ l6 = Option.getD (blockAs l0 n5) [] ∧ (l6.length : Int) ≤ 82 →
 (-9223372036854775808 ≤ n5 + 1 ∧ n5 + (1 : Int) ≤ (9223372036854775807 : Int)) ∧ I2 l4 (n5 + 1) ∧ m3 l4 (n5 + 1) < m3 l4 n5)) ∧ (¬n5 ≤ 3 → l4 = packB l0 ∧ (l4.length : Int) ≤ 82)) ∧ (false = Option.isSome (blockAs l0 0) ∧ l1 = Option.getD
 (blockAs l0 0) [] ∧ (l1.length : Int) ≤ 82 → ∃ (I7 : List Int → Int → Prop), ∃ (m8 : List Int → Int → Nat), I7 l1 1 ∧ ∀ (l9 : List Int) (n10 : Int), I7 l9 n10 → (n10 ≤ 3 → (l0.length : Int) ≤ 1099511627776 ∧ ∀ (l11 : List Int), (true =
 Option.isSome (blockAs l0 n10) ∧ l11 = Option.getD (blockAs l0 n10) [] ∧ (l11.length : Int) ≤ 82 → ((l11.length : Int) < (l9.length : Int) → (-9223372036854775808 ≤ n10 + 1 ∧ n10 + (1 : Int) ≤ (9223372036854775807 : Int)) ∧ I7 l11 (n10 + 1)
 ∧ m8 l11 (n10 + 1) < m8 l9 n10) ∧ (¬(l11.length : Int) < (l9.length : Int) → (-9223372036854775808 ≤ n10 + 1 ∧ n10 + (1 : Int) ≤ (9223372036854775807 : Int)) ∧ I7 l9 (n10 + 1) ∧ m8 l9 (n10 + 1) < m8 l9 n10)) ∧ (false = Option.isSome (blockAs
 l0 n10) ∧ l11 = Option.getD (blockAs l0 n10) [] ∧ (l11.length : Int) ≤ 82 → (-9223372036854775808 ≤ n10 + 1 ∧ n10 + (1 : Int) ≤ (9223372036854775807 : Int)) ∧ I7 l9 (n10 + 1) ∧ m8 l9 (n10 + 1) < m8 l9 n10)) ∧ (¬n10 ≤ 3 → l9 = packB l0 ∧
 (l9.length : Int) ≤ 82))
theorem v_s_BlockPack : V_s_BlockPack := by
  unfold V_s_BlockPack
  intro l hz
  have hp := (packB_len l).1
  refine ⟨hz, fun x0 => ⟨?_, ?_⟩⟩
  all_goals
    rintro ⟨_, rfl, _⟩
    refine ⟨fun b w => 1 ≤ w ∧ w ≤ 4 ∧ b = packTo l (w - 1).toNat, fun b w => (4 - w).toNat, ?_, ?_⟩ <;> dsimp only
    · exact ⟨by omega, by omega, rfl⟩
    rintro b w ⟨w0, w1, hJ⟩
    have hst := packTo_step l (n := w - 1) (by omega)
    rw [show w - 1 + 1 = w by omega, ← hJ] at hst
    have next : ∀ b', b' = packTo l w.toNat → w ≤ 3 → (-9223372036854775808 ≤ w + 1 ∧ w + 1 ≤ 9223372036854775807) ∧ (1 ≤ w + 1 ∧ w + 1 ≤ 4 ∧ b' = packTo l (w + 1 - 1).toNat) ∧ (4 - (w + 1)).toNat < (4 - w).toNat := fun b' h hw =>
      ⟨by omega, ⟨by omega, by omega, by rw [h]; congr 2; omega⟩, by omega⟩
    refine ⟨fun hw => ⟨hz, fun x => ⟨?_, ?_⟩⟩, fun hw => ?_⟩
    · rintro ⟨q, rfl, _⟩
      obtain ⟨y, hy⟩ := Option.isSome_iff_exists.1 q.symm
      rw [hy] at hst ⊢
      simp only [Option.getD_some, shorter] at hst ⊢
      exact ⟨fun hlt => next y (by rw [hst, if_pos (by omega)]) hw, fun hlt => next b (by rw [hst, if_neg (by omega)]) hw⟩
    · rintro ⟨q, rfl, _⟩
      cases hb : blockAs l w with
      | none => rw [hb] at hst; exact next b hst.symm hw
      | some y => rw [hb] at q; cases q
    · rw [show (w - 1).toNat = 3 by omega] at hJ
      have hb' : b = packB l := hJ
      exact ⟨hb', by rw [hb']; omega⟩
def V_i_BlockPack : Prop :=
  ∀ (l0 : List Int), (l0.length : Int) ≤ 1099511627776 → ∃ (I1 : List Int → Int → Prop), ∃ (m2 : List Int → Int → Nat), I1 [] 0 ∧ ∀ (l3 : List Int) (n4 : Int), I1 l3 n4 → (n4 ≤ 3 → (l0.length : Int) ≤ 1099511627776 ∧ ∀ (l5 : List Int), (true =
 Option.isSome (blockAs l0 n4) ∧ l5 = Option.getD (blockAs l0 n4) [] ∧ (l5.length : Int) ≤ 82 → ((l3.length : Int) = 0 → (-9223372036854775808 ≤ n4 + 1 ∧ n4 + (1 : Int) ≤ (9223372036854775807 : Int)) ∧ I1 l5 (n4 + 1) ∧ m2 l5 (n4 + 1) < m2 l3
 n4) ∧ (¬(l3.length : Int) = 0 → ((l5.length : Int) < (l3.length : Int) → (-9223372036854775808 ≤ n4 + 1 ∧ n4 + (1 : Int) ≤ (9223372036854775807 : Int)) ∧ I1 l5 (n4 + 1) ∧ m2 l5 (n4 + 1) < m2 l3 n4) ∧ (¬(l5.length : Int) < (l3.length : Int) →
 (-9223372036854775808 ≤ n4 + 1 ∧ n4 + (1 : Int) ≤ (9223372036854775807 : Int)) ∧ I1 l3 (n4 + 1) ∧ m2 l3 (n4 + 1) < m2 l3 n4))) ∧ (false = Option.isSome (blockAs l0 n4) ∧ l5 = Option.getD (blockAs l0 n4) [] ∧ (l5.length : Int) ≤ 82 →
 (-9223372036854775808 ≤ n4 + 1 ∧ n4 + (1 : Int) ≤ (9223372036854775807 : Int)) ∧ I1 l3 (n4 + 1) ∧ m2 l3 (n4 + 1) < m2 l3 n4)) ∧ (¬n4 ≤ 3 → l3 = packB l0 ∧ (l3.length : Int) ≤ 82)
theorem v_i_BlockPack : V_i_BlockPack := by
  unfold V_i_BlockPack
  intro l hz
  have hp := (packB_len l).1
  refine ⟨fun b w => 0 ≤ w ∧ w ≤ 4 ∧ (w = 0 → b = []) ∧ (0 < w → b = packTo l (w - 1).toNat), fun b w => (4 - w).toNat, ?_, ?_⟩ <;> dsimp only
  · exact ⟨by omega, by omega, fun _ => rfl, fun h => by omega⟩
  rintro b w ⟨w0, w1, hI, hJ⟩
  have next : ∀ b', b' = packTo l w.toNat → w ≤ 3 → (-9223372036854775808 ≤ w + 1 ∧ w + 1 ≤ 9223372036854775807) ∧ (0 ≤ w + 1 ∧ w + 1 ≤ 4 ∧ (w + 1 = 0 → b' = []) ∧ (0 < w + 1 → b' = packTo l (w + 1 - 1).toNat)) ∧ (4 - (w + 1)).toNat < (4 - w).toNat := fun b' h hw =>
    ⟨by omega, ⟨by omega, by omega, fun q => by omega, fun _ => by rw [h]; congr 2; omega⟩, by omega⟩
  have hst : 0 < w → packTo l w.toNat = shorter (packTo l (w - 1).toNat) (blockAs l w) := fun h => by
    have := packTo_step l (n := w - 1) (by omega)
    rw [show w - 1 + 1 = w by omega] at this; exact this
  refine ⟨fun hw => ⟨hz, fun x => ⟨?_, ?_⟩⟩, fun hw => ?_⟩
  · rintro ⟨q, rfl, _⟩
    obtain ⟨y, hy⟩ := Option.isSome_iff_exists.1 q.symm
    rw [hy]
    simp only [Option.getD_some]
    have hy2 := (block_facts hy).2.2.1
    by_cases h0 : w = 0
    · subst h0
      have hb := hI rfl
      have e : y = packTo l (0 : Int).toNat := by show y = (blockAs l 0).getD []; rw [hy]; rfl
      exact ⟨fun _ => next y e hw, fun hne => by rw [hb] at hne; simp at hne⟩
    · have hb := hJ (by omega)
      have hs := hst (by omega)
      rw [hy, ← hb] at hs
      simp only [shorter] at hs
      refine ⟨fun hne => ?_, fun hne => ⟨fun hlt => next y (by rw [hs, if_pos (by omega)]) hw, fun hlt => next b (by rw [hs, if_neg (by omega)]) hw⟩⟩
      exfalso
      by_cases hv : LV l = true
      · obtain ⟨w', _, _, h2, _⟩ := packTo_ok hv (w - 1).toNat
        have := (block_facts h2).2.2.1
        rw [← hb] at this
        omega
      · rw [blockAs_no hv] at hy; cases hy
  · rintro ⟨q, rfl, _⟩
    have hn : blockAs l w = none := by
      cases hb : blockAs l w with
      | none => rfl
      | some y => rw [hb] at q; cases q
    refine next b ?_ hw
    by_cases h0 : w = 0
    · subst h0
      rw [hI rfl]
      show [] = (blockAs l 0).getD []
      rw [hn]; rfl
    · rw [hst (by omega), hn, hJ (by omega)]; rfl
  · have hb := hJ (by omega)
    rw [show (w - 1).toNat = 3 by omega] at hb
    have hb' : b = packB l := hb
    exact ⟨hb', by rw [hb']; omega⟩
end Go.Proofs.Ytkkgpcbkkahieaa
