/-
  The conditions of functions, proved: m_bits.
-/
import Derived.Test.YtkkgpcbkkahieaaM
set_option linter.unusedVariables false
set_option linter.unusedSimpArgs false
open Go Go.Ax Go.Mx
namespace Go.Proofs.Ytkkgpcbkkahieaa
def V_i_bytesOk : Prop :=
  ∀ (l0 : List Int), (l0.length : Int) ≤ 1099511627776 → (l0.length : Int) ≤ 1099511627776 ∧ (true = allIn 0 255 l0 → true = allIn 0 255 l0) ∧ (false = allIn 0 255 l0 → false = allIn 0 255 l0)
theorem v_i_bytesOk : V_i_bytesOk := by
  unfold V_i_bytesOk
  intro l hz
  repeat' (first | apply And.intro | (rintro _ _ _ ⟨rfl, rfl, _, _⟩) | (rintro _ _ _ ⟨rfl, _, _, _⟩) | (rintro _ _ _ _ ⟨rfl, _, _, _⟩) | (rintro _ _ ⟨rfl, _⟩) | intro _)
  all_goals try (first | omega | with_reducible rfl | with_reducible assumption | (simp only [List.length_append, List.length_take, List.length_drop, List.length_set, List.length_cons, List.length_nil, List.length_replicate, Int.toNat_natCast] <;> omega) | (simp <;> omega))
  all_goals grind
def V_s_l1Bytes : Prop :=
  ∀ (l0 : List Int), (l0.length : Int) ≤ 1099511627776 → ∃ (I1 : Int → Prop), ∃ (m2 : Int → Nat), I1 0 ∧ ∀ (n3 : Int), I1 n3 → (n3 < (l0.length : Int) → 0 ≤ n3 ∧ n3 < (l0.length : Int) ∧ True ∧ (true = decide (0 ≤ List.getD l0 (n3.toNat) 0 ∧
 List.getD l0 (n3.toNat) (0 : Int) ≤ 255) → (-9223372036854775808 ≤ n3 + 1 ∧ n3 + (1 : Int) ≤ (9223372036854775807 : Int)) ∧ I1 (n3 + 1) ∧ m2 (n3 + 1) < m2 n3) ∧ (false = decide (0 ≤ List.getD l0 (n3.toNat) 0 ∧ List.getD l0 (n3.toNat) (0 :
 Int) ≤ 255) → false = allIn 0 255 l0)) ∧ (¬n3 < (l0.length : Int) → true = allIn 0 255 l0)
theorem v_s_l1Bytes : V_s_l1Bytes := by
  unfold V_s_l1Bytes
  intro l hz
  refine ⟨fun i => 0 ≤ i ∧ i ≤ l.length ∧ allIn 0 255 (l.drop i.toNat) = allIn 0 255 l, fun i => (l.length - i).toNat, ?_, ?_⟩ <;> dsimp only
  · simp
  rintro i ⟨h0, h1, h2⟩
  refine ⟨fun hlt => ?_, fun hge => ?_⟩
  · rw [drop_lt 0 h0 hlt, allIn] at h2
    grind
  · rw [drop_ge hge, allIn] at h2
    grind
def V_i_bitsOk : Prop :=
  ∀ (l0 : List Int), (l0.length : Int) ≤ 1099511627776 → ((l0.length : Int) ≤ 600 → (l0.length : Int) ≤ 1099511627776 ∧ (true = allIn 0 1 l0 → true = bitsIn l0) ∧ (false = allIn 0 1 l0 → false = bitsIn l0)) ∧ (¬(l0.length : Int) ≤ 600 → false
 = bitsIn l0)
theorem v_i_bitsOk : V_i_bitsOk := by
  unfold V_i_bitsOk
  intro l hz
  unfold bitsIn
  repeat' (first | apply And.intro | (rintro _ _ _ ⟨rfl, rfl, _, _⟩) | (rintro _ _ _ ⟨rfl, _, _, _⟩) | (rintro _ _ _ _ ⟨rfl, _, _, _⟩) | (rintro _ _ ⟨rfl, _⟩) | intro _)
  all_goals try (first | omega | with_reducible rfl | with_reducible assumption | (simp only [List.length_append, List.length_take, List.length_drop, List.length_set, List.length_cons, List.length_nil, List.length_replicate, Int.toNat_natCast] <;> omega) | (simp <;> omega))
  all_goals grind
def V_s_l1Bits : Prop :=
  ∀ (l0 : List Int), (l0.length : Int) ≤ 1099511627776 → ∃ (I1 : Int → Prop), ∃ (m2 : Int → Nat), I1 0 ∧ ∀ (n3 : Int), I1 n3 → (n3 < (l0.length : Int) → 0 ≤ n3 ∧ n3 < (l0.length : Int) ∧ True ∧ (true = decide (0 ≤ List.getD l0 (n3.toNat) 0 ∧
 List.getD l0 (n3.toNat) (0 : Int) ≤ 1) → (-9223372036854775808 ≤ n3 + 1 ∧ n3 + (1 : Int) ≤ (9223372036854775807 : Int)) ∧ I1 (n3 + 1) ∧ m2 (n3 + 1) < m2 n3) ∧ (false = decide (0 ≤ List.getD l0 (n3.toNat) 0 ∧ List.getD l0 (n3.toNat) (0 : Int)
 ≤ 1) → false = bitsIn l0)) ∧ (¬n3 < (l0.length : Int) → ((l0.length : Int) ≤ 600 → true = bitsIn l0) ∧ (¬(l0.length : Int) ≤ 600 → false = bitsIn l0))
theorem v_s_l1Bits : V_s_l1Bits := by
  unfold V_s_l1Bits
  intro l hz
  refine ⟨fun i => 0 ≤ i ∧ i ≤ l.length ∧ allIn 0 1 (l.drop i.toNat) = allIn 0 1 l, fun i => (l.length - i).toNat, ?_, ?_⟩ <;> dsimp only
  · simp
  rintro i ⟨h0, h1, h2⟩
  refine ⟨fun hlt => ?_, fun hge => ?_⟩
  · rw [drop_lt 0 h0 hlt, allIn] at h2
    grind [bitsIn]
  · rw [drop_ge hge, allIn] at h2
    grind [bitsIn]
def V_s_l1Put : Prop :=
  ∀ (n0 n1 : Int), 0 ≤ n0 ∧ n0 ≤ 100000000 ∧ 0 ≤ n1 ∧ n1 ≤ 16 → n1 = n1 ∧ 0 ≤ n1 ∧ n1 ≤ 1099511627776 ∧ (-9223372036854775808 ≤ n1 - 1 ∧ n1 - (1 : Int) ≤ (9223372036854775807 : Int)) ∧ ∃ (I2 : Int → Int → List Int → Prop), ∃ (m3 : Int → Int →
 List Int → Nat), I2 n0 (n1 - 1) (List.replicate (n1.toNat) 0) ∧ ∀ (n4 n5 : Int) (l6 : List Int), I2 n4 n5 l6 → (0 ≤ n5 → 0 ≤ n4 ∧ (0 : Int) < 2 ∧ 0 ≤ n5 ∧ n5 < (l6.length : Int) ∧ n5.toNat < l6.length ∧ 0 ≤ n4 ∧ (0 : Int) < 2 ∧
 (-9223372036854775808 ≤ n4 / 2 ∧ n4 / (2 : Int) ≤ (9223372036854775807 : Int)) ∧ (-9223372036854775808 ≤ n5 - 1 ∧ n5 - (1 : Int) ≤ (9223372036854775807 : Int)) ∧ I2 (n4 / 2) (n5 - 1) (List.set l6 (n5.toNat) (n4 % 2)) ∧ m3 (n4 / 2) (n5 - 1)
 (List.set l6 (n5.toNat) (n4 % 2)) < m3 n4 n5 l6) ∧ (¬0 ≤ n5 → l6 = bitsOf (n1.toNat) n0)
theorem v_s_l1Put : V_s_l1Put := by
  unfold V_s_l1Put
  rintro n0 k ⟨h0, h1, h2, h3⟩
  refine ⟨rfl, h2, by omega, by omega, ?_⟩
  refine ⟨fun n i o => -1 ≤ i ∧ i < k ∧ 0 ≤ n ∧ n ≤ 100000000 ∧ o.length = k.toNat ∧ bitsOf (i + 1).toNat n ++ o.drop (i + 1).toNat = bitsOf k.toNat n0, fun n i o => (i + 1).toNat, ?_, ?_⟩ <;> dsimp only
  · refine ⟨by omega, by omega, h0, h1, by simp, ?_⟩
    rw [show k - 1 + 1 = k by omega, List.drop_of_length_le (by simp)]; simp
  rintro n i o ⟨i0, i1, n0', n1, hl, hI⟩
  refine ⟨fun hi => ?_, fun hi => ?_⟩
  · have hd : (o.set i.toNat (n % 2)).drop i.toNat = (n % 2) :: o.drop (i + 1).toNat := by
      rw [drop_lt 0 hi (show i < ((o.set i.toNat (n % 2)).length : Int) by simp; omega), set_drop hi]
      congr 1
      have : i.toNat < o.length := by omega
      simp [List.getD_eq_getElem?_getD, this]
    rw [show (i + 1).toNat = i.toNat + 1 by omega, bitsOf, List.append_assoc] at hI
    refine ⟨n0', by omega, hi, by omega, by omega, n0', by omega, by omega, by omega, ⟨by omega, by omega, by omega, by omega, by simp; omega, ?_⟩, by omega⟩
    rw [show i - 1 + 1 = i by omega, hd, show (i + 1).toNat = i.toNat + 1 by omega]
    simpa using hI
  · rw [show (i + 1).toNat = 0 by omega] at hI
    simpa [bitsOf] using hI
def V_s_l1Get : Prop :=
  ∀ (l0 : List Int), (l0.length : Int) ≤ 16 ∧ allIn 0 1 l0 = true → ∃ (I1 : Int → Int → Prop), ∃ (m2 : Int → Int → Nat), I1 0 0 ∧ ∀ (n3 n4 : Int), I1 n3 n4 → (n4 < (l0.length : Int) → ((-9223372036854775808 : Int) ≤ 2 * n3 ∧ 2 * n3 ≤
 (9223372036854775807 : Int)) ∧ 0 ≤ n4 ∧ n4 < (l0.length : Int) ∧ ((-9223372036854775808 : Int) ≤ 2 * n3 + List.getD l0 (n4.toNat) 0 ∧ 2 * n3 + List.getD l0 (n4.toNat) (0 : Int) ≤ (9223372036854775807 : Int)) ∧ (-9223372036854775808 ≤ n4 + 1
 ∧ n4 + (1 : Int) ≤ (9223372036854775807 : Int)) ∧ I1 (2 * n3 + List.getD l0 (n4.toNat) 0) (n4 + 1) ∧ m2 (2 * n3 + List.getD l0 (n4.toNat) 0) (n4 + 1) < m2 n3 n4) ∧ (¬n4 < (l0.length : Int) → n3 = numOf l0)
theorem v_s_l1Get : V_s_l1Get := by
  unfold V_s_l1Get
  rintro l ⟨hl, ha⟩
  refine ⟨fun n i => 0 ≤ i ∧ i ≤ l.length ∧ n = numOf (l.take i.toNat), fun n i => (l.length - i).toNat, ?_, ?_⟩ <;> dsimp only
  · simp [numOf]
  rintro n i ⟨h0, h1, rfl⟩
  refine ⟨fun hlt => ?_, fun hge => by rw [take_ge hge]⟩
  have hx := allIn_iff.1 ha _ (at_mem h0 hlt)
  have hb := numOf_bd (l := l.take i.toNat) (allIn_iff.2 fun x hx => allIn_iff.1 ha x (List.mem_of_mem_take hx))
  have hp : (2 : Int) ^ (l.take i.toNat).length ≤ 65536 := by
    have h16 : (l.take i.toNat).length ≤ 16 := by simp; omega
    have : (2 : Nat) ^ (l.take i.toNat).length ≤ 2 ^ 16 := Nat.pow_le_pow_right (by omega) h16
    have e : ((2 ^ (l.take i.toNat).length : Nat) : Int) = 2 ^ (l.take i.toNat).length := by simp
    omega
  have hs : numOf (l.take (i + 1).toNat) = 2 * numOf (l.take i.toNat) + l.getD i.toNat 0 := by rw [take_lt 0 h0 hlt, numOf_snoc]
  exact ⟨by omega, h0, hlt, by omega, by omega, ⟨by omega, by omega, hs.symm⟩, by omega⟩
def V_i_BitsPut : Prop :=
  ∀ (l0 : List Int) (n1 n2 : Int), (l0.length : Int) ≤ 1099511627776 → (l0.length : Int) ≤ 1099511627776 ∧ (true = bitsIn l0 → True ∧ (true = decide (0 ≤ n2 ∧ n2 ≤ 16) → 0 ≤ n2 ∧ n2 < 63 ∧ ((-9223372036854775808 : Int) ≤ (1 : Int) * 2 ^
 n2.toNat ∧ 1 * 2 ^ n2.toNat ≤ (9223372036854775807 : Int)) ∧ ((-9223372036854775808 : Int) ≤ (1 : Int) * 2 ^ n2.toNat - 1 ∧ 1 * 2 ^ n2.toNat - (1 : Int) ≤ (9223372036854775807 : Int)) ∧ True ∧ (true = decide (0 ≤ n1 ∧ n1 ≤ (1 : Int) * 2 ^
 n2.toNat - 1) → (-9223372036854775808 ≤ (l0.length : Int) + n2 ∧ (l0.length : Int) + n2 ≤ (9223372036854775807 : Int)) ∧ (600 < (l0.length : Int) + n2 → false = (bitsIn l0 && decide (0 ≤ n2 ∧ n2 ≤ 16) && decide (0 ≤ n1 ∧ n1 ≤ p2 n2 - 1) &&
 decide ((l0.length : Int) + n2 ≤ 600)) ∧ [] = if false = true then l0 ++ bitsOf (n2.toNat) n1 else []) ∧ (¬600 < (l0.length : Int) + n2 → (l0.length : Int) ≤ 1099511627776 ∧ ∀ (l3 : List Int), l3 = l0 → (-9223372036854775808 ≤ n2 - 1 ∧ n2 -
 (1 : Int) ≤ (9223372036854775807 : Int)) ∧ ∃ (I4 : List Int → Int → Prop), ∃ (m5 : List Int → Int → Nat), I4 l3 (n2 - 1) ∧ ∀ (l6 : List Int) (n7 : Int), I4 l6 n7 → (0 ≤ n7 → 0 ≤ n7 ∧ n7 < 63 ∧ (↑(l6.length + List.length [bitI BinOp.and (n1 /
 2 ^ n7.toNat) 1]) : Int) ≤ 1099511627776 ∧ (-9223372036854775808 ≤ n7 - 1 ∧ n7 - (1 : Int) ≤ (9223372036854775807 : Int)) ∧ I4 (l6 ++ [bitI BinOp.and (n1 / 2 ^ n7.toNat) 1]) (n7 - 1) ∧ m5 (l6 ++ [bitI BinOp.and (n1 / 2 ^ n7.toNat) 1]) (n7 -
 1) < m5 l6 n7) ∧ (¬0 ≤ n7 → true = (bitsIn l0 && decide (0 ≤ n2 ∧ n2 ≤ 16) && decide (0 ≤ n1 ∧ n1 ≤ p2 n2 - 1) && decide ((l0.length : Int) + n2 ≤ 600)) ∧ l6 = if true = true then l0 ++ bitsOf (n2.toNat) n1 else []))) ∧ (false = decide (0 ≤
 n1 ∧ n1 ≤ (1 : Int) * 2 ^ n2.toNat - 1) → false = (bitsIn l0 && decide (0 ≤ n2 ∧ n2 ≤ 16) && decide (0 ≤ n1 ∧ n1 ≤ p2 n2 - 1) && decide ((l0.length : Int) + n2 ≤ 600)) ∧ [] = if false = true then l0 ++ bitsOf (n2.toNat) n1 else [])) ∧ (false
 = decide (0 ≤ n2 ∧ n2 ≤ 16) → false = (bitsIn l0 && decide (0 ≤ n2 ∧ n2 ≤ 16) && decide (0 ≤ n1 ∧ n1 ≤ p2 n2 - 1) && decide ((l0.length : Int) + n2 ≤ 600)) ∧ [] = if false = true then l0 ++ bitsOf (n2.toNat) n1 else [])) ∧ (false = bitsIn l0
 → false = (bitsIn l0 && decide (0 ≤ n2 ∧ n2 ≤ 16) && decide (0 ≤ n1 ∧ n1 ≤ p2 n2 - 1) && decide ((l0.length : Int) + n2 ≤ 600)) ∧ [] = if false = true then l0 ++ bitsOf (n2.toNat) n1 else [])
theorem v_i_BitsPut : V_i_BitsPut := by
  unfold V_i_BitsPut
  rintro bs n w hz
  refine ⟨hz, fun hb => ⟨trivial, fun hw => ?_, fun hw => ?_⟩, fun hb => ?_⟩
  · have hw' := hw
    simp only [true_eq_decide_iff] at hw'
    have e1 : (1 : Int) * 2 ^ w.toNat = p2 w := by unfold p2; omega
    have hp : p2 w ≤ 65536 := by
      have q : p2 16 = p2 w * p2 (16 - w) := by rw [← p2_add hw'.1 (by omega)]; congr 1; omega
      have e : p2 16 = 65536 := by decide
      have q2 := p2_pos (16 - w)
      have q3 := p2_pos w
      have : p2 w * 1 ≤ p2 w * p2 (16 - w) := Int.mul_le_mul_of_nonneg_left (by omega) (by omega)
      omega
    have hp0 := p2_pos w
    have e2 : (2 : Int) ^ w.toNat = p2 w := rfl
    have hp' : (2 : Int) ^ w.toNat ≤ 65536 := hp
    have hp0' : 0 < (2 : Int) ^ w.toNat := hp0
    refine ⟨hw'.1, by omega, ⟨by omega, by omega⟩, ⟨by omega, by omega⟩, trivial, fun hn => ⟨?_, fun h6 => ?_, fun h6 => ⟨hz, ?_⟩⟩, fun hn => ?_⟩
    · have : bs.length ≤ 600 := by
        have := hb.symm
        simp only [bitsIn, Bool.and_eq_true, decide_eq_true_eq] at this; exact this.1
      omega
    · rw [decide_eq_false (show ¬ (bs.length : Int) + w ≤ 600 by omega)]; simp
    · rintro x rfl
      have hn' := hn
      simp only [true_eq_decide_iff] at hn'
      refine ⟨by omega, ?_⟩
      have hn2 : decide (0 ≤ n ∧ n ≤ p2 w - 1) = true := decide_eq_true ⟨hn'.1, by omega⟩
      have hd : decide ((x.length : Int) + w ≤ 600) = true := decide_eq_true (by omega)
      rw [← hb, ← hw, hn2, hd]
      refine ⟨fun o i => -1 ≤ i ∧ i < w ∧ (o.length : Int) + i + 1 = x.length + w ∧ o ++ bitsOf (i + 1).toNat n = x ++ bitsOf w.toNat n, fun o i => (i + 1).toNat, ?_, ?_⟩ <;> dsimp only
      · exact ⟨by omega, by omega, by omega, by rw [show w - 1 + 1 = w by omega]⟩
      rintro o i ⟨i0, i1, i2, hI⟩
      refine ⟨fun hi => ?_, fun hi => ?_⟩
      · have hq : 0 ≤ n / 2 ^ i.toNat ∧ n / 2 ^ i.toNat ≤ n := by
          have hp' : (0 : Int) < 2 ^ i.toNat := Int.pow_pos (by omega)
          exact ⟨Int.ediv_nonneg hn'.1 (by omega), Int.ediv_le_self _ hn'.1⟩
        rw [bitI_low hq.1 (by omega)]
        rw [show (i + 1).toNat = i.toNat + 1 by omega, bitsOf_top _ _ hn'.1] at hI
        refine ⟨hi, by omega, by simp; omega, by omega, ⟨by omega, by omega, by simp; omega, ?_⟩, by omega⟩
        rw [show i - 1 + 1 = i by omega]
        simpa using hI
      · rw [show (i + 1).toNat = 0 by omega] at hI
        simpa [bitsOf] using hI
    · simp only [false_eq_decide_iff] at hn
      have hn2 : decide (0 ≤ n ∧ n ≤ p2 w - 1) = false := decide_eq_false (fun h => hn ⟨h.1, by omega⟩)
      rw [hn2]; simp
  · rw [← hw]; simp
  · rw [← hb]; simp
def V_i_BitsBytes : Prop :=
  ∀ (l0 : List Int), (l0.length : Int) ≤ 1099511627776 → (l0.length : Int) ≤ 1099511627776 ∧ (true = bitsIn l0 → (-9223372036854775808 ≤ (l0.length : Int) + 7 ∧ (l0.length : Int) + (7 : Int) ≤ (9223372036854775807 : Int)) ∧ 0 ≤ (l0.length :
 Int) + 7 ∧ (0 : Int) < 8 ∧ (-9223372036854775808 ≤ ((l0.length : Int) + 7) / 8 ∧ ((l0.length : Int) + 7) / (8 : Int) ≤ (9223372036854775807 : Int)) ∧ ((l0.length : Int) + 7) / 8 = ((l0.length : Int) + 7) / 8 ∧ 0 ≤ ((l0.length : Int) + 7) / 8
 ∧ ((l0.length : Int) + 7) / (8 : Int) ≤ 1099511627776 ∧ ∃ (I1 : Int → List Int → Prop), ∃ (m2 : Int → List Int → Nat), I1 0 (List.replicate (Int.toNat (((l0.length : Int) + 7) / 8)) 0) ∧ ∀ (n3 : Int) (l4 : List Int), I1 n3 l4 → (n3 <
 (l0.length : Int) → 0 ≤ n3 ∧ n3 < (l0.length : Int) ∧ 0 ≤ n3 ∧ (0 : Int) < 8 ∧ (-9223372036854775808 ≤ n3 / 8 ∧ n3 / (8 : Int) ≤ (9223372036854775807 : Int)) ∧ 0 ≤ n3 / 8 ∧ n3 / 8 < (l4.length : Int) ∧ Int.toNat (n3 / 8) < l4.length ∧ 0 ≤ n3
 ∧ (0 : Int) < 8 ∧ ((-9223372036854775808 : Int) ≤ 7 - n3 % 8 ∧ 7 - n3 % (8 : Int) ≤ (9223372036854775807 : Int)) ∧ (0 : Int) ≤ 7 - n3 % 8 ∧ 7 - n3 % (8 : Int) < 63 ∧ (-9223372036854775808 ≤ List.getD l0 (n3.toNat) 0 * 2 ^ Int.toNat (7 - n3 %
 8) ∧ List.getD l0 (n3.toNat) 0 * 2 ^ Int.toNat (7 - n3 % 8) ≤ (9223372036854775807 : Int)) ∧ 0 ≤ n3 / 8 ∧ n3 / 8 < (l4.length : Int) ∧ Int.toNat (n3 / 8) < l4.length ∧ (-9223372036854775808 ≤ n3 + 1 ∧ n3 + (1 : Int) ≤ (9223372036854775807 :
 Int)) ∧ I1 (n3 + 1) (List.set l4 (Int.toNat (n3 / 8)) (bitI BinOp.or (List.getD l4 (Int.toNat (n3 / 8)) 0) (List.getD l0 (n3.toNat) 0 * 2 ^ Int.toNat (7 - n3 % 8)))) ∧ m2 (n3 + 1) (List.set l4 (Int.toNat (n3 / 8)) (bitI BinOp.or (List.getD
 l4 (Int.toNat (n3 / 8)) 0) (List.getD l0 (n3.toNat) 0 * 2 ^ Int.toNat (7 - n3 % 8)))) < m2 n3 l4) ∧ (¬n3 < (l0.length : Int) → true = bitsIn l0 ∧ l4 = if bitsIn l0 = true then bytesOf l0 else [])) ∧ (false = bitsIn l0 → false = bitsIn l0 ∧
 [] = if bitsIn l0 = true then bytesOf l0 else [])
theorem v_i_BitsBytes : V_i_BitsBytes := by
  unfold V_i_BitsBytes
  intro l hz
  refine ⟨hz, fun hv => ?_, fun hv => by rw [← hv]; simp⟩
  rw [← hv]
  have hv' := hv.symm
  simp only [bitsIn, Bool.and_eq_true, decide_eq_true_eq] at hv'
  refine ⟨by omega, by omega, by omega, by omega, rfl, by omega, by omega, ?_⟩
  have hnb : ((l.length : Int) + 7) / 8 = (((l.length + 7) / 8 : Nat) : Int) := by omega
  rw [hnb]
  simp only [Int.toNat_natCast]
  generalize hN : (l.length + 7) / 8 = nb at *
  refine ⟨fun i o => 0 ≤ i ∧ i ≤ l.length ∧ o = (List.range nb).map (byteAt (l.take i.toNat)), fun i o => (l.length - i).toNat, ?_, ?_⟩ <;> dsimp only
  · refine ⟨by omega, by omega, ?_⟩
    have : byteAt (l.take (0 : Int).toNat) = fun _ => 0 := by funext j; exact byteAt_none (by simp)
    rw [this]
    apply List.ext_getElem?
    intro j
    by_cases h : j < nb <;> simp [h]
  rintro i o ⟨h0, h1, rfl⟩
  refine ⟨fun hlt => ?_, fun hge => ?_⟩
  · obtain ⟨k, rfl⟩ : ∃ k : Nat, i = k := ⟨i.toNat, by omega⟩
    have hk : k < l.length := by omega
    have e1 : ((k : Int) / 8).toNat = k / 8 := by omega
    have e2 : (7 - (k : Int) % 8).toNat = 7 - k % 8 := by omega
    have hset := bytes_set (nb := nb) hk (by omega)
    obtain ⟨b1, b2, b3, b4, b5, b6⟩ := byte_bd hv'.2 hk
    have hget : ((List.range nb).map (byteAt (l.take k))).getD (k / 8) 0 = byteAt (l.take k) (k / 8) := by
      have : k / 8 < nb := by omega
      simp [List.getD_eq_getElem?_getD, this]
    simp only [e1, e2, Int.toNat_natCast, hget, List.length_map, List.length_range]
    rw [bitI_or_apart b1 b3 b4 b6 (by omega) (by omega), hset, show ((k : Int) + 1).toNat = k + 1 by omega]
    and_intros <;> first | omega | exact Eq.refl _
  · rw [take_ge hge, ← hN]
    exact ⟨by trivial, rfl⟩
def V_s_BitsBytes : Prop :=
  ∀ (l0 : List Int), (l0.length : Int) ≤ 1099511627776 → (l0.length : Int) ≤ 1099511627776 ∧ (true = bitsIn l0 → (↑(0 + l0.length) : Int) ≤ 1099511627776 ∧ ∃ (I1 : List Int → Prop), ∃ (m2 : List Int → Nat), I1 l0 ∧ ∀ (l3 : List Int), I1 l3 → 0
 ≤ (l3.length : Int) ∧ (0 : Int) < 8 ∧ ((l3.length : Int) % (8 : Int) ≠ 0 → (↑(l3.length + List.length [0]) : Int) ≤ 1099511627776 ∧ I1 (l3 ++ [0]) ∧ m2 (l3 ++ [0]) < m2 l3) ∧ (¬(l3.length : Int) % (8 : Int) ≠ 0 → ∃ (I4 : List Int → Int →
 Prop), ∃ (m5 : List Int → Int → Nat), I4 [] 0 ∧ ∀ (l6 : List Int) (n7 : Int), I4 l6 n7 → (n7 < (l3.length : Int) → (-9223372036854775808 ≤ n7 + 8 ∧ n7 + (8 : Int) ≤ (9223372036854775807 : Int)) ∧ 0 ≤ n7 ∧ n7 ≤ n7 + 8 ∧ n7 + 8 ≤ (l3.length :
 Int) ∧ ((↑(List.length (List.take (Int.toNat (n7 + 8 - n7)) (List.drop (n7.toNat) l3))) : Int) ≤ 16 ∧ allIn 0 1 (List.take (Int.toNat (n7 + 8 - n7)) (List.drop (n7.toNat) l3)) = true) ∧ ∀ (n8 : Int), n8 = numOf (List.take (Int.toNat (n7 + 8
 - n7)) (List.drop (n7.toNat) l3)) → (↑(l6.length + List.length [n8]) : Int) ≤ 1099511627776 ∧ (-9223372036854775808 ≤ n7 + 8 ∧ n7 + (8 : Int) ≤ (9223372036854775807 : Int)) ∧ I4 (l6 ++ [n8]) (n7 + 8) ∧ m5 (l6 ++ [n8]) (n7 + 8) < m5 l6 n7) ∧
 (¬n7 < (l3.length : Int) → true = bitsIn l0 ∧ l6 = if bitsIn l0 = true then bytesOf l0 else []))) ∧ (false = bitsIn l0 → false = bitsIn l0 ∧ [] = if bitsIn l0 = true then bytesOf l0 else [])
theorem v_s_BitsBytes : V_s_BitsBytes := by
  unfold V_s_BitsBytes
  intro l hz
  refine ⟨hz, fun hv => ?_, fun hv => by rw [← hv]; simp⟩
  rw [← hv]
  have hv' := hv.symm
  simp only [bitsIn, Bool.and_eq_true, decide_eq_true_eq] at hv'
  refine ⟨by omega, ?_⟩
  refine ⟨fun a => bytesOf a = bytesOf l ∧ a.length ≤ (l.length + 7) / 8 * 8 ∧ allIn 0 1 a = true, fun a => (8 - a.length % 8) % 8, ?_, ?_⟩ <;> dsimp only
  · exact ⟨rfl, by omega, hv'.2⟩
  rintro a ⟨hb, hl, ha⟩
  refine ⟨by omega, by omega, fun hne => ?_, fun he => ?_⟩
  · have hne' : ¬ a.length % 8 = 0 := by omega
    have hl2 : (a ++ [(0 : Int)]).length = a.length + 1 := by simp
    refine ⟨by simp; omega, ⟨by rw [bytesOf_pad hne', hb], by omega, ?_⟩, by omega⟩
    refine allIn_iff.2 fun x hx => ?_
    rcases List.mem_append.1 hx with q | q
    · exact allIn_iff.1 ha x q
    · rw [List.mem_singleton] at q; omega
  · refine ⟨fun o n => 0 ≤ n ∧ n ≤ a.length ∧ n % 8 = 0 ∧ o = (List.range (n / 8).toNat).map (byteAt a), fun o n => (a.length - n).toNat, ?_, ?_⟩ <;> dsimp only
    · simp
    rintro o n ⟨n0, n1, n2, rfl⟩
    refine ⟨fun hlt => ?_, fun hge => ?_⟩
    · have hc : (a.drop n.toNat).take (n + 8 - n).toNat = (a.drop (8 * (n / 8).toNat)).take 8 := by
        rw [show (n + 8 - n).toNat = 8 by omega, show n.toNat = 8 * (n / 8).toNat by omega]
      rw [hc]
      have hcl : ((a.drop (8 * (n / 8).toNat)).take 8).length = 8 := by simp; omega
      have hp : pad8 ((a.drop (8 * (n / 8).toNat)).take 8) = (a.drop (8 * (n / 8).toNat)).take 8 := by unfold pad8; rw [hcl]; simp
      refine ⟨by omega, n0, by omega, by omega, ⟨by omega, allIn_iff.2 fun x hx => allIn_iff.1 ha x (List.mem_of_mem_drop (List.mem_of_mem_take hx))⟩, ?_⟩
      rintro y rfl
      refine ⟨by simp; omega, by omega, ⟨by omega, by omega, by omega, ?_⟩, by omega⟩
      rw [show ((n + 8) / 8).toNat = (n / 8).toNat + 1 by omega, List.range_succ, List.map_append]
      simp only [List.map_cons, List.map_nil]
      rw [show byteAt a (n / 8).toNat = numOf (pad8 ((a.drop (8 * (n / 8).toNat)).take 8)) from rfl, hp]
    · refine ⟨by trivial, ?_⟩
      rw [if_pos rfl, ← hb]
      unfold bytesOf
      rw [show (n / 8).toNat = (a.length + 7) / 8 by omega]
end Go.Proofs.Ytkkgpcbkkahieaa
