/-
  The conditions of functions, proved: r_open.
-/
import Derived.Test.YtkkgpcbkkahieaaM
set_option linter.unusedVariables false
set_option linter.unusedSimpArgs false
open Go Go.Ax Go.Mx
namespace Go.Proofs.Ytkkgpcbkkahieaa
def V_i_RunsJoin : Prop :=
  ∀ (l0 : List (Int × Int)), (l0.length : Int) ≤ 1099511627776 → ∃ (I1 : List Int → Int → Prop), ∃ (m2 : List Int → Int → Nat), I1 [] 0 ∧ ∀ (l3 : List Int) (n4 : Int), I1 l3 n4 → (n4 < (l0.length : Int) → 0 ≤ n4 ∧ n4 < (l0.length : Int) ∧ (∃
 (b : Bool), b = decide (0 ≤ Prod.fst (List.getD l0 (n4.toNat) (0, 0)) ∧ Prod.fst (List.getD l0 (n4.toNat) (0, 0)) ≤ 7)) ∧ True ∧ (true = decide (0 ≤ Prod.fst (List.getD l0 (n4.toNat) (0, 0)) ∧ Prod.fst (List.getD l0 (n4.toNat) (0, 0)) ≤ 7) →
 ((-9223372036854775808 : Int) ≤ 40 - (l3.length : Int) ∧ 40 - (l3.length : Int) ≤ (9223372036854775807 : Int)) ∧ (∃ (b : Bool), b = decide (1 ≤ Prod.snd (List.getD l0 (n4.toNat) (0, 0)) ∧ Prod.snd (List.getD l0 (n4.toNat) (0, 0)) ≤ 40 -
 (l3.length : Int))) ∧ True ∧ (true = decide (1 ≤ Prod.snd (List.getD l0 (n4.toNat) (0, 0)) ∧ Prod.snd (List.getD l0 (n4.toNat) (0, 0)) ≤ 40 - (l3.length : Int)) → (0 < n4 → (-9223372036854775808 ≤ n4 - 1 ∧ n4 - (1 : Int) ≤
 (9223372036854775807 : Int)) ∧ 0 ≤ n4 - 1 ∧ n4 - 1 < (l0.length : Int) ∧ (Prod.fst (List.getD l0 (Int.toNat (n4 - 1)) (0, 0)) = Prod.fst (List.getD l0 (n4.toNat) (0, 0)) → false = Option.isSome (joinD l0) ∧ [] = Option.getD (joinD l0) []) ∧
 (¬Prod.fst (List.getD l0 (Int.toNat (n4 - 1)) (0, 0)) = Prod.fst (List.getD l0 (n4.toNat) (0, 0)) → ∃ (I5 : List Int → Int → Prop), ∃ (m6 : List Int → Int → Nat), I5 l3 0 ∧ ∀ (l7 : List Int) (n8 : Int), I5 l7 n8 → (n8 < Prod.snd (List.getD
 l0 (n4.toNat) (0, 0)) → (↑(l7.length + List.length [Prod.fst (List.getD l0 (n4.toNat) (0, 0))]) : Int) ≤ 1099511627776 ∧ (-9223372036854775808 ≤ n8 + 1 ∧ n8 + (1 : Int) ≤ (9223372036854775807 : Int)) ∧ I5 (l7 ++ [Prod.fst (List.getD l0
 (n4.toNat) (0, 0))]) (n8 + 1) ∧ m6 (l7 ++ [Prod.fst (List.getD l0 (n4.toNat) (0, 0))]) (n8 + 1) < m6 l7 n8) ∧ (¬n8 < Prod.snd (List.getD l0 (n4.toNat) (0, 0)) → (-9223372036854775808 ≤ n4 + 1 ∧ n4 + (1 : Int) ≤ (9223372036854775807 : Int)) ∧
 I1 l7 (n4 + 1) ∧ m2 l7 (n4 + 1) < m2 l3 n4))) ∧ (¬0 < n4 → ∃ (I9 : List Int → Int → Prop), ∃ (m10 : List Int → Int → Nat), I9 l3 0 ∧ ∀ (l11 : List Int) (n12 : Int), I9 l11 n12 → (n12 < Prod.snd (List.getD l0 (n4.toNat) (0, 0)) →
 (↑(l11.length + List.length [Prod.fst (List.getD l0 (n4.toNat) (0, 0))]) : Int) ≤ 1099511627776 ∧ (-9223372036854775808 ≤ n12 + 1 ∧ n12 + (1 : Int) ≤ (9223372036854775807 : Int)) ∧ I9 (l11 ++ [Prod.fst (List.getD l0 (n4.toNat) (0, 0))]) (n12
 + 1) ∧ m10 (l11 ++ [Prod.fst (List.getD l0 (n4.toNat) (0, 0))]) (n12 + 1) < m10 l11 n12) ∧ (¬n12 < Prod.snd (List.getD l0 (n4.toNat) (0, 0)) → (-9223372036854775808 ≤ n4 + 1 ∧ n4 + (1 : Int) ≤ (9223372036854775807 : Int)) ∧ I1 l11 (n4 + 1) ∧
 m2 l11 (n4 + 1) < m2 l3 n4))) ∧ (false = decide (1 ≤ Prod.snd (List.getD l0 (n4.toNat) (0, 0)) ∧ Prod.snd (List.getD l0 (n4.toNat) (0, 0)) ≤ 40 - (l3.length : Int)) → false = Option.isSome (joinD l0) ∧ [] = Option.getD (joinD l0) [])) ∧
 (false = decide (0 ≤ Prod.fst (List.getD l0 (n4.toNat) (0, 0)) ∧ Prod.fst (List.getD l0 (n4.toNat) (0, 0)) ≤ 7) → false = Option.isSome (joinD l0) ∧ [] = Option.getD (joinD l0) [])) ∧ (¬n4 < (l0.length : Int) → true = Option.isSome (joinD
 l0) ∧ l3 = Option.getD (joinD l0) [])
theorem v_i_RunsJoin : V_i_RunsJoin := by
  unfold V_i_RunsJoin
  intro rs hz
  have no : joinD rs = none → false = (joinD rs).isSome ∧ [] = (joinD rs).getD [] := fun h => by rw [h]; exact ⟨rfl, rfl⟩
  refine ⟨fun o i => 0 ≤ i ∧ i ≤ rs.length ∧ (o.length : Int) ≤ 40 ∧ joinFrom (rs.drop i.toNat) (prevR rs i) o = joinD rs, fun o i => (rs.length - i).toNat, ?_, ?_⟩ <;> dsimp only
  · exact ⟨by omega, by omega, by simp, by simp [prevR, joinD]⟩
  rintro o i ⟨i0, i1, ol, hI⟩
  refine ⟨fun hlt => ?_, fun hge => by rw [drop_ge hge, joinFrom] at hI; rw [← hI]; exact ⟨rfl, rfl⟩⟩
  rw [join_step i0 hlt] at hI
  generalize hx : rs.getD i.toNat (0, 0) = x at *
  have bad : ¬ ((0 ≤ x.1 ∧ x.1 ≤ 7) ∧ (1 ≤ x.2 ∧ x.2 ≤ 40 - (o.length : Int)) ∧ prevR rs i ≠ some x.1) → joinD rs = none := fun q => by rw [if_neg q] at hI; exact hI.symm
  refine ⟨i0, hlt, ⟨_, rfl⟩, trivial, fun h1 => ⟨by omega, ⟨_, rfl⟩, trivial, fun h2 => ⟨fun hp => ⟨by omega, by omega, by omega, fun he => no (bad (fun q => q.2.2 (prevR_eq hp he))), fun hne => ?_⟩, fun hp => ?_⟩, fun h2 => no (bad (fun q => by rw [decide_eq_true q.2.1] at h2; cases h2))⟩, fun h1 => no (bad (fun q => by rw [decide_eq_true q.1] at h1; cases h1))⟩
  · have h1' := h1
    have h2' := h2
    simp only [true_eq_decide_iff] at h1' h2'
    have hq := prevR_ne hp hne
    rw [if_pos ⟨h1', h2', hq⟩] at hI
    refine ⟨fun q k => 0 ≤ k ∧ k ≤ x.2 ∧ q ++ List.replicate (x.2 - k).toNat x.1 = o ++ List.replicate x.2.toNat x.1 ∧ (q.length : Int) ≤ o.length + k, fun q k => (x.2 - k).toNat, ?_, ?_⟩ <;> dsimp only
    · exact ⟨by omega, by omega, by rw [Int.sub_zero], by omega⟩
    rintro q k ⟨k0, k1, hq2, hql⟩
    refine ⟨fun hk => ⟨by simp; omega, by omega, ⟨by omega, by omega, rep_step k0 hk hq2, by simp; omega⟩, by omega⟩, fun hk => ?_⟩
    rw [show (x.2 - k).toNat = 0 by omega, List.replicate_zero, List.append_nil] at hq2
    exact ⟨by omega, ⟨by omega, by omega, by omega, by rw [hq2]; exact hI⟩, by omega⟩
  · have h1' := h1
    have h2' := h2
    simp only [true_eq_decide_iff] at h1' h2'
    have hq := prevR_no (rs := rs) (s := x.1) hp
    rw [if_pos ⟨h1', h2', hq⟩] at hI
    refine ⟨fun q k => 0 ≤ k ∧ k ≤ x.2 ∧ q ++ List.replicate (x.2 - k).toNat x.1 = o ++ List.replicate x.2.toNat x.1 ∧ (q.length : Int) ≤ o.length + k, fun q k => (x.2 - k).toNat, ?_, ?_⟩ <;> dsimp only
    · exact ⟨by omega, by omega, by rw [Int.sub_zero], by omega⟩
    rintro q k ⟨k0, k1, hq2, hql⟩
    refine ⟨fun hk => ⟨by simp; omega, by omega, ⟨by omega, by omega, rep_step k0 hk hq2, by simp; omega⟩, by omega⟩, fun hk => ?_⟩
    rw [show (x.2 - k).toNat = 0 by omega, List.replicate_zero, List.append_nil] at hq2
    exact ⟨by omega, ⟨by omega, by omega, by omega, by rw [hq2]; exact hI⟩, by omega⟩
def V_s_RunsJoin : Prop :=
  ∀ (l0 : List (Int × Int)), (l0.length : Int) ≤ 1099511627776 → ∃ (I1 : List Int → Int → Prop), ∃ (m2 : List Int → Int → Nat), I1 [] 0 ∧ ∀ (l3 : List Int) (n4 : Int), I1 l3 n4 → (n4 < (l0.length : Int) → 0 ≤ n4 ∧ n4 < (l0.length : Int) ∧ (∃
 (b : Bool), b = decide (0 ≤ Prod.fst (List.getD l0 (n4.toNat) (0, 0)) ∧ Prod.fst (List.getD l0 (n4.toNat) (0, 0)) ≤ 7)) ∧ True ∧ (true = decide (0 ≤ Prod.fst (List.getD l0 (n4.toNat) (0, 0)) ∧ Prod.fst (List.getD l0 (n4.toNat) (0, 0)) ≤ 7) →
 0 ≤ n4 ∧ n4 < (l0.length : Int) ∧ ((-9223372036854775808 : Int) ≤ 40 - (l3.length : Int) ∧ 40 - (l3.length : Int) ≤ (9223372036854775807 : Int)) ∧ (∃ (b : Bool), b = decide (1 ≤ Prod.snd (List.getD l0 (n4.toNat) (0, 0)) ∧ Prod.snd (List.getD
 l0 (n4.toNat) (0, 0)) ≤ 40 - (l3.length : Int))) ∧ True ∧ (true = decide (1 ≤ Prod.snd (List.getD l0 (n4.toNat) (0, 0)) ∧ Prod.snd (List.getD l0 (n4.toNat) (0, 0)) ≤ 40 - (l3.length : Int)) → (0 < n4 → (-9223372036854775808 ≤ n4 - 1 ∧ n4 -
 (1 : Int) ≤ (9223372036854775807 : Int)) ∧ 0 ≤ n4 - 1 ∧ n4 - 1 < (l0.length : Int) ∧ 0 ≤ n4 ∧ n4 < (l0.length : Int) ∧ (Prod.fst (List.getD l0 (Int.toNat (n4 - 1)) (0, 0)) = Prod.fst (List.getD l0 (n4.toNat) (0, 0)) → false = Option.isSome
 (joinD l0) ∧ [] = Option.getD (joinD l0) []) ∧ (¬Prod.fst (List.getD l0 (Int.toNat (n4 - 1)) (0, 0)) = Prod.fst (List.getD l0 (n4.toNat) (0, 0)) → ∃ (I5 : List Int → Int → Prop), ∃ (m6 : List Int → Int → Nat), I5 l3 0 ∧ ∀ (l7 : List Int) (n8
 : Int), I5 l7 n8 → 0 ≤ n4 ∧ n4 < (l0.length : Int) ∧ (n8 < Prod.snd (List.getD l0 (n4.toNat) (0, 0)) → 0 ≤ n4 ∧ n4 < (l0.length : Int) ∧ (↑(l7.length + List.length [Prod.fst (List.getD l0 (n4.toNat) (0, 0))]) : Int) ≤ 1099511627776 ∧
 (-9223372036854775808 ≤ n8 + 1 ∧ n8 + (1 : Int) ≤ (9223372036854775807 : Int)) ∧ I5 (l7 ++ [Prod.fst (List.getD l0 (n4.toNat) (0, 0))]) (n8 + 1) ∧ m6 (l7 ++ [Prod.fst (List.getD l0 (n4.toNat) (0, 0))]) (n8 + 1) < m6 l7 n8) ∧ (¬n8 < Prod.snd
 (List.getD l0 (n4.toNat) (0, 0)) → (-9223372036854775808 ≤ n4 + 1 ∧ n4 + (1 : Int) ≤ (9223372036854775807 : Int)) ∧ I1 l7 (n4 + 1) ∧ m2 l7 (n4 + 1) < m2 l3 n4))) ∧ (¬0 < n4 → ∃ (I9 : List Int → Int → Prop), ∃ (m10 : List Int → Int → Nat), I9
 l3 0 ∧ ∀ (l11 : List Int) (n12 : Int), I9 l11 n12 → 0 ≤ n4 ∧ n4 < (l0.length : Int) ∧ (n12 < Prod.snd (List.getD l0 (n4.toNat) (0, 0)) → 0 ≤ n4 ∧ n4 < (l0.length : Int) ∧ (↑(l11.length + List.length [Prod.fst (List.getD l0 (n4.toNat) (0,
 0))]) : Int) ≤ 1099511627776 ∧ (-9223372036854775808 ≤ n12 + 1 ∧ n12 + (1 : Int) ≤ (9223372036854775807 : Int)) ∧ I9 (l11 ++ [Prod.fst (List.getD l0 (n4.toNat) (0, 0))]) (n12 + 1) ∧ m10 (l11 ++ [Prod.fst (List.getD l0 (n4.toNat) (0, 0))])
 (n12 + 1) < m10 l11 n12) ∧ (¬n12 < Prod.snd (List.getD l0 (n4.toNat) (0, 0)) → (-9223372036854775808 ≤ n4 + 1 ∧ n4 + (1 : Int) ≤ (9223372036854775807 : Int)) ∧ I1 l11 (n4 + 1) ∧ m2 l11 (n4 + 1) < m2 l3 n4))) ∧ (false = decide (1 ≤ Prod.snd
 (List.getD l0 (n4.toNat) (0, 0)) ∧ Prod.snd (List.getD l0 (n4.toNat) (0, 0)) ≤ 40 - (l3.length : Int)) → false = Option.isSome (joinD l0) ∧ [] = Option.getD (joinD l0) [])) ∧ (false = decide (0 ≤ Prod.fst (List.getD l0 (n4.toNat) (0, 0)) ∧
 Prod.fst (List.getD l0 (n4.toNat) (0, 0)) ≤ 7) → false = Option.isSome (joinD l0) ∧ [] = Option.getD (joinD l0) [])) ∧ (¬n4 < (l0.length : Int) → true = Option.isSome (joinD l0) ∧ l3 = Option.getD (joinD l0) [])
theorem v_s_RunsJoin : V_s_RunsJoin := by
  unfold V_s_RunsJoin
  intro rs hz
  have no : joinD rs = none → false = (joinD rs).isSome ∧ [] = (joinD rs).getD [] := fun h => by rw [h]; exact ⟨rfl, rfl⟩
  refine ⟨fun o i => 0 ≤ i ∧ i ≤ rs.length ∧ (o.length : Int) ≤ 40 ∧ joinFrom (rs.drop i.toNat) (prevR rs i) o = joinD rs, fun o i => (rs.length - i).toNat, ?_, ?_⟩ <;> dsimp only
  · exact ⟨by omega, by omega, by simp, by simp [prevR, joinD]⟩
  rintro o i ⟨i0, i1, ol, hI⟩
  refine ⟨fun hlt => ?_, fun hge => by rw [drop_ge hge, joinFrom] at hI; rw [← hI]; exact ⟨rfl, rfl⟩⟩
  rw [join_step i0 hlt] at hI
  generalize hx : rs.getD i.toNat (0, 0) = x at *
  have bad : ¬ ((0 ≤ x.1 ∧ x.1 ≤ 7) ∧ (1 ≤ x.2 ∧ x.2 ≤ 40 - (o.length : Int)) ∧ prevR rs i ≠ some x.1) → joinD rs = none := fun q => by rw [if_neg q] at hI; exact hI.symm
  refine ⟨i0, hlt, ⟨_, rfl⟩, trivial, fun h1 => ⟨i0, hlt, by omega, ⟨_, rfl⟩, trivial, fun h2 => ⟨fun hp => ⟨by omega, by omega, by omega, i0, hlt, fun he => no (bad (fun q => q.2.2 (prevR_eq hp he))), fun hne => ?_⟩, fun hp => ?_⟩, fun h2 => no (bad (fun q => by rw [decide_eq_true q.2.1] at h2; cases h2))⟩, fun h1 => no (bad (fun q => by rw [decide_eq_true q.1] at h1; cases h1))⟩
  · have h1' := h1
    have h2' := h2
    simp only [true_eq_decide_iff] at h1' h2'
    have hq := prevR_ne hp hne
    rw [if_pos ⟨h1', h2', hq⟩] at hI
    refine ⟨fun q k => 0 ≤ k ∧ k ≤ x.2 ∧ q ++ List.replicate (x.2 - k).toNat x.1 = o ++ List.replicate x.2.toNat x.1 ∧ (q.length : Int) ≤ o.length + k, fun q k => (x.2 - k).toNat, ?_, ?_⟩ <;> dsimp only
    · exact ⟨by omega, by omega, by rw [Int.sub_zero], by omega⟩
    rintro q k ⟨k0, k1, hq2, hql⟩
    refine ⟨i0, hlt, fun hk => ⟨i0, hlt, by simp; omega, by omega, ⟨by omega, by omega, rep_step k0 hk hq2, by simp; omega⟩, by omega⟩, fun hk => ?_⟩
    rw [show (x.2 - k).toNat = 0 by omega, List.replicate_zero, List.append_nil] at hq2
    exact ⟨by omega, ⟨by omega, by omega, by omega, by rw [hq2]; exact hI⟩, by omega⟩
  · have h1' := h1
    have h2' := h2
    simp only [true_eq_decide_iff] at h1' h2'
    have hq := prevR_no (rs := rs) (s := x.1) hp
    rw [if_pos ⟨h1', h2', hq⟩] at hI
    refine ⟨fun q k => 0 ≤ k ∧ k ≤ x.2 ∧ q ++ List.replicate (x.2 - k).toNat x.1 = o ++ List.replicate x.2.toNat x.1 ∧ (q.length : Int) ≤ o.length + k, fun q k => (x.2 - k).toNat, ?_, ?_⟩ <;> dsimp only
    · exact ⟨by omega, by omega, by rw [Int.sub_zero], by omega⟩
    rintro q k ⟨k0, k1, hq2, hql⟩
    refine ⟨i0, hlt, fun hk => ⟨i0, hlt, by simp; omega, by omega, ⟨by omega, by omega, rep_step k0 hk hq2, by simp; omega⟩, by omega⟩, fun hk => ?_⟩
    rw [show (x.2 - k).toNat = 0 by omega, List.replicate_zero, List.append_nil] at hq2
    exact ⟨by omega, ⟨by omega, by omega, by omega, by rw [hq2]; exact hI⟩, by omega⟩
def V_i_lengthsIn4 : Prop :=
  ∀ (l0 : List Int), (l0.length : Int) ≤ 1000 ∧ allIn 0 255 l0 = true → ∃ (I1 : List Int → Int → Prop), ∃ (m2 : List Int → Int → Nat), I1 [] 0 ∧ ∀ (l3 : List Int) (n4 : Int), I1 l3 n4 → (n4 < (l0.length : Int) → 0 ≤ n4 ∧ n4 < (l0.length : Int)
 ∧ 0 ≤ List.getD l0 (n4.toNat) 0 ∧ (0 : Int) < 16 ∧ (-9223372036854775808 ≤ List.getD l0 (n4.toNat) 0 / 16 ∧ List.getD l0 (n4.toNat) 0 / (16 : Int) ≤ (9223372036854775807 : Int)) ∧ 0 ≤ List.getD l0 (n4.toNat) 0 ∧ (0 : Int) < 16 ∧ (↑(l3.length
 + List.length [List.getD l0 (n4.toNat) 0 / 16, List.getD l0 (n4.toNat) 0 % 16]) : Int) ≤ 1099511627776 ∧ (-9223372036854775808 ≤ n4 + 1 ∧ n4 + (1 : Int) ≤ (9223372036854775807 : Int)) ∧ I1 (l3 ++ [List.getD l0 (n4.toNat) 0 / 16, List.getD l0
 (n4.toNat) 0 % 16]) (n4 + 1) ∧ m2 (l3 ++ [List.getD l0 (n4.toNat) 0 / 16, List.getD l0 (n4.toNat) 0 % 16]) (n4 + 1) < m2 l3 n4) ∧ (¬n4 < (l0.length : Int) → l3 = unlens l0)
theorem v_i_lengthsIn4 : V_i_lengthsIn4 := by
  unfold V_i_lengthsIn4
  rintro l ⟨hz, hin⟩
  have hin := allIn_iff.1 hin
  refine ⟨fun o i => 0 ≤ i ∧ i ≤ l.length ∧ o = unlens (l.take i.toNat), fun o i => (l.length - i).toNat, ?_, ?_⟩ <;> dsimp only
  · exact ⟨by omega, by omega, rfl⟩
  rintro o i ⟨i0, i1, rfl⟩
  refine ⟨fun hlt => ?_, fun hge => by rw [take_ge hge]⟩
  have hx := hin _ (at_mem i0 hlt)
  have hst := unlens_step i0 hlt
  have hul := unlens_len (l.take i.toNat)
  have htl := len_take (l := l) i0 i1
  exact ⟨i0, hlt, by omega, by omega, by omega, by omega, by omega, by simp only [List.length_cons, List.length_nil]; omega, by omega, ⟨by omega, by omega, hst.symm⟩, by omega⟩
def V_i_firstBits : Prop :=
  ∀ (l0 : List Int), (l0.length : Int) ≤ 1099511627776 ∧ allIn 0 255 l0 = true → 0 ≤ min (l0.length : Int) 40 ∧ min (l0.length : Int) 40 ≤ (l0.length : Int) ∧ (↑(List.length (List.take (Int.toNat (min (l0.length : Int) 40)) l0)) : Int) ≤
 1099511627776 ∧ ∀ (l1 : List Int), ((true = (allIn 0 255 (List.take (Int.toNat (min (l0.length : Int) 40)) l0) && decide (8 * (↑(List.length (List.take (Int.toNat (min (l0.length : Int) 40)) l0)) : Int) ≤ 600)) ∧ l1 = if true = true then
 bitsB (List.take (Int.toNat (min (l0.length : Int) 40)) l0) else []) → l1 = bitsB (List.take 40 l0)) ∧ ((false = (allIn 0 255 (List.take (Int.toNat (min (l0.length : Int) 40)) l0) && decide (8 * (↑(List.length (List.take (Int.toNat (min
 (l0.length : Int) 40)) l0)) : Int) ≤ 600)) ∧ l1 = if false = true then bitsB (List.take (Int.toNat (min (l0.length : Int) 40)) l0) else []) → l1 = bitsB (List.take 40 l0))
theorem v_i_firstBits : V_i_firstBits := by
  unfold V_i_firstBits
  rintro l ⟨hz, hin⟩
  have ht : l.take (min (l.length : Int) 40).toNat = l.take 40 := by
    by_cases h : l.length ≤ 40
    · rw [List.take_of_length_le (by omega), List.take_of_length_le h]
    · congr 1; omega
  have hl : (l.take 40).length ≤ 40 := by simp; omega
  rw [ht, allIn_take 40 hin, decide_eq_true (show 8 * ((l.take 40).length : Int) ≤ 600 by omega)]
  refine ⟨by omega, by omega, by omega, fun b => ⟨?_, ?_⟩⟩
  · rintro ⟨_, rfl⟩; rw [if_pos rfl]
  · rintro ⟨q, _⟩; cases q
def V_i_listIn : Prop :=
  ∀ (l0 : List Int), (l0.length : Int) ≤ 1099511627776 ∧ allIn 0 255 l0 = true ∧ 2 ≤ (l0.length : Int) → (0 : Int) ≤ 0 ∧ 0 < (l0.length : Int) ∧ (0 : Int) ≤ 1 ∧ 1 < (l0.length : Int) ∧ (0 : Int) ≤ 2 ∧ 2 ≤ (l0.length : Int) ∧ (List.getD l0
 (Int.toNat 0) (0 : Int) = 0 → ((↑(List.length (List.drop (Int.toNat 2) l0)) : Int) < List.getD l0 (Int.toNat 1) 0 → false = Option.isSome (listD l0) ∧ [] = Option.getD (listD l0) []) ∧ (¬(↑(List.length (List.drop (Int.toNat 2) l0)) : Int) <
 List.getD l0 (Int.toNat 1) 0 → 0 ≤ List.getD l0 (Int.toNat 1) 0 ∧ List.getD l0 (Int.toNat 1) 0 ≤ (↑(List.length (List.drop (Int.toNat 2) l0)) : Int) ∧ true = Option.isSome (listD l0) ∧ List.take (Int.toNat (List.getD l0 (Int.toNat 1) 0))
 (List.drop (Int.toNat 2) l0) = Option.getD (listD l0) [])) ∧ (¬List.getD l0 (Int.toNat 0) (0 : Int) = 0 → (List.getD l0 (Int.toNat 0) (0 : Int) = 1 → ∃ (I1 : List (Int × Int) → Int → Prop), ∃ (m2 : List (Int × Int) → Int → Nat), I1 [] 0 ∧ ∀
 (l3 : List (Int × Int)) (n4 : Int), I1 l3 n4 → (n4 < List.getD l0 (Int.toNat 1) 0 → ((-9223372036854775808 : Int) ≤ 2 * n4 ∧ 2 * n4 ≤ (9223372036854775807 : Int)) ∧ ((-9223372036854775808 : Int) ≤ 2 * n4 + 1 ∧ 2 * n4 + (1 : Int) ≤
 (9223372036854775807 : Int)) ∧ ((↑(List.length (List.drop (Int.toNat 2) l0)) : Int) ≤ 2 * n4 + 1 → false = Option.isSome (listD l0) ∧ [] = Option.getD (listD l0) []) ∧ (¬(↑(List.length (List.drop (Int.toNat 2) l0)) : Int) ≤ 2 * n4 + 1 →
 ((-9223372036854775808 : Int) ≤ 2 * n4 ∧ 2 * n4 ≤ (9223372036854775807 : Int)) ∧ (0 : Int) ≤ 2 * n4 ∧ 2 * n4 < (↑(List.length (List.drop (Int.toNat 2) l0)) : Int) ∧ ((-9223372036854775808 : Int) ≤ 2 * n4 ∧ 2 * n4 ≤ (9223372036854775807 :
 Int)) ∧ ((-9223372036854775808 : Int) ≤ 2 * n4 + 1 ∧ 2 * n4 + (1 : Int) ≤ (9223372036854775807 : Int)) ∧ (0 : Int) ≤ 2 * n4 + 1 ∧ 2 * n4 + 1 < (↑(List.length (List.drop (Int.toNat 2) l0)) : Int) ∧ (↑(l3.length + List.length [(List.getD
 (List.drop (Int.toNat 2) l0) (Int.toNat (2 * n4)) 0, List.getD (List.drop (Int.toNat 2) l0) (Int.toNat (2 * n4 + 1)) 0)]) : Int) ≤ 1099511627776 ∧ (-9223372036854775808 ≤ n4 + 1 ∧ n4 + (1 : Int) ≤ (9223372036854775807 : Int)) ∧ I1 (l3 ++
 [(List.getD (List.drop (Int.toNat 2) l0) (Int.toNat (2 * n4)) 0, List.getD (List.drop (Int.toNat 2) l0) (Int.toNat (2 * n4 + 1)) 0)]) (n4 + 1) ∧ m2 (l3 ++ [(List.getD (List.drop (Int.toNat 2) l0) (Int.toNat (2 * n4)) 0, List.getD (List.drop
 (Int.toNat 2) l0) (Int.toNat (2 * n4 + 1)) 0)]) (n4 + 1) < m2 l3 n4)) ∧ (¬n4 < List.getD l0 (Int.toNat 1) 0 → (l3.length : Int) ≤ 1099511627776 ∧ ∀ (l5 : List Int), (true = Option.isSome (joinD l3) ∧ l5 = Option.getD (joinD l3) [] → true =
 Option.isSome (listD l0) ∧ l5 = Option.getD (listD l0) []) ∧ (false = Option.isSome (joinD l3) ∧ l5 = Option.getD (joinD l3) [] → false = Option.isSome (listD l0) ∧ l5 = Option.getD (listD l0) []))) ∧ (¬List.getD l0 (Int.toNat 0) (0 : Int) =
 1 → (List.getD l0 (Int.toNat 0) (0 : Int) = 2 → ((↑(List.length (List.drop (Int.toNat 2) l0)) : Int) < 4 → false = Option.isSome (listD l0) ∧ [] = Option.getD (listD l0) []) ∧ (¬(↑(List.length (List.drop (Int.toNat 2) l0)) : Int) < 4 → (0 :
 Int) ≤ 4 ∧ 4 ≤ (↑(List.length (List.drop (Int.toNat 2) l0)) : Int) ∧ (∃ (xs : List Int), xs = bitsB (List.take 40 (List.drop (Int.toNat 4) (List.drop (Int.toNat 2) l0)))) ∧ ((↑(List.length (List.drop (Int.toNat 4) (List.drop (Int.toNat 2)
 l0))) : Int) ≤ 1099511627776 ∧ allIn 0 255 (List.drop (Int.toNat 4) (List.drop (Int.toNat 2) l0)) = true) ∧ ∀ (l6 : List Int), l6 = bitsB (List.take 40 (List.drop (Int.toNat 4) (List.drop (Int.toNat 2) l0))) → (0 : Int) ≤ 4 ∧ 4 ≤
 (↑(List.length (List.drop (Int.toNat 2) l0)) : Int) ∧ (∃ (xs : List Int), xs = unlens (List.take (Int.toNat 4) (List.drop (Int.toNat 2) l0))) ∧ ((↑(List.length (List.take (Int.toNat 4) (List.drop (Int.toNat 2) l0))) : Int) ≤ 1000 ∧ allIn 0
 255 (List.take (Int.toNat 4) (List.drop (Int.toNat 2) l0)) = true) ∧ ∀ (l7 : List Int), l7 = unlens (List.take (Int.toNat 4) (List.drop (Int.toNat 2) l0)) → (∃ (xs : List Int), ∃ (n : Int), ∃ (b : Bool), b = Option.isSome (decD l6 l7
 (List.getD l0 (Int.toNat 1) 0)) ∧ (xs, n) = Option.getD (decD l6 l7 (List.getD l0 (Int.toNat 1) 0)) ([], 0)) ∧ ((l6.length : Int) ≤ 1099511627776 ∧ (l7.length : Int) ≤ 1099511627776) ∧ ∀ (l8 : List Int) (n9 : Int), (true = Option.isSome
 (decD l6 l7 (List.getD l0 (Int.toNat 1) 0)) ∧ (l8, n9) = Option.getD (decD l6 l7 (List.getD l0 (Int.toNat 1) 0)) ([], 0) → true = Option.isSome (listD l0) ∧ l8 = Option.getD (listD l0) []) ∧ (false = Option.isSome (decD l6 l7 (List.getD l0
 (Int.toNat 1) 0)) ∧ (l8, n9) = Option.getD (decD l6 l7 (List.getD l0 (Int.toNat 1) 0)) ([], 0) → false = Option.isSome (listD l0) ∧ l8 = Option.getD (listD l0) []))) ∧ (¬List.getD l0 (Int.toNat 0) (0 : Int) = 2 → (List.getD l0 (Int.toNat 0)
 (0 : Int) = 3 → ((↑(List.length (List.drop (Int.toNat 2) l0)) : Int) < List.getD l0 (Int.toNat 1) 0 → false = Option.isSome (listD l0) ∧ [] = Option.getD (listD l0) []) ∧ (¬(↑(List.length (List.drop (Int.toNat 2) l0)) : Int) < List.getD l0
 (Int.toNat 1) 0 → 0 ≤ List.getD l0 (Int.toNat 1) 0 ∧ List.getD l0 (Int.toNat 1) 0 ≤ (↑(List.length (List.drop (Int.toNat 2) l0)) : Int) ∧ ∃ (I10 : List (Int × Int × Int) → Int → Prop), ∃ (m11 : List (Int × Int × Int) → Int → Nat), I10 [] 0 ∧
 ∀ (l12 : List (Int × Int × Int)) (n13 : Int), I10 l12 n13 → (n13 < (↑(List.length (List.take (Int.toNat (List.getD l0 (Int.toNat 1) 0)) (List.drop (Int.toNat 2) l0))) : Int) → 0 ≤ n13 ∧ n13 < (↑(List.length (List.take (Int.toNat (List.getD
 l0 (Int.toNat 1) 0)) (List.drop (Int.toNat 2) l0))) : Int) ∧ (128 ≤ List.getD (List.take (Int.toNat (List.getD l0 (Int.toNat 1) 0)) (List.drop (Int.toNat 2) l0)) (n13.toNat) 0 → 0 ≤ List.getD (List.take (Int.toNat (List.getD l0 (Int.toNat 1)
 0)) (List.drop (Int.toNat 2) l0)) (n13.toNat) 0 ∧ (0 : Int) < 16 ∧ (-9223372036854775808 ≤ List.getD (List.take (Int.toNat (List.getD l0 (Int.toNat 1) 0)) (List.drop (Int.toNat 2) l0)) (n13.toNat) 0 % 16 + 1 ∧ List.getD (List.take (Int.toNat
 (List.getD l0 (Int.toNat 1) 0)) (List.drop (Int.toNat 2) l0)) (n13.toNat) 0 % 16 + (1 : Int) ≤ (9223372036854775807 : Int)) ∧ (-9223372036854775808 ≤ List.getD (List.take (Int.toNat (List.getD l0 (Int.toNat 1) 0)) (List.drop (Int.toNat 2)
 l0)) (n13.toNat) 0 - 128 ∧ List.getD (List.take (Int.toNat (List.getD l0 (Int.toNat 1) 0)) (List.drop (Int.toNat 2) l0)) (n13.toNat) 0 - (128 : Int) ≤ (9223372036854775807 : Int)) ∧ 0 ≤ List.getD (List.take (Int.toNat (List.getD l0
 (Int.toNat 1) 0)) (List.drop (Int.toNat 2) l0)) (n13.toNat) 0 - 128 ∧ (0 : Int) < 16 ∧ (-9223372036854775808 ≤ (List.getD (List.take (Int.toNat (List.getD l0 (Int.toNat 1) 0)) (List.drop (Int.toNat 2) l0)) (n13.toNat) 0 - 128) / 16 ∧
 (List.getD (List.take (Int.toNat (List.getD l0 (Int.toNat 1) 0)) (List.drop (Int.toNat 2) l0)) (n13.toNat) 0 - 128) / (16 : Int) ≤ (9223372036854775807 : Int)) ∧ (-9223372036854775808 ≤ (List.getD (List.take (Int.toNat (List.getD l0
 (Int.toNat 1) 0)) (List.drop (Int.toNat 2) l0)) (n13.toNat) 0 - 128) / 16 + 2 ∧ (List.getD (List.take (Int.toNat (List.getD l0 (Int.toNat 1) 0)) (List.drop (Int.toNat 2) l0)) (n13.toNat) 0 - 128) / 16 + (2 : Int) ≤ (9223372036854775807 :
 Int)) ∧ (↑(l12.length + List.length [(0, List.getD (List.take (Int.toNat (List.getD l0 (Int.toNat 1) 0)) (List.drop (Int.toNat 2) l0)) (n13.toNat) 0 % 16 + 1, (List.getD (List.take (Int.toNat (List.getD l0 (Int.toNat 1) 0)) (List.drop
 (Int.toNat 2) l0)) (n13.toNat) 0 - 128) / 16 + 2)]) : Int) ≤ 1099511627776 ∧ (-9223372036854775808 ≤ n13 + 1 ∧ n13 + (1 : Int) ≤ (9223372036854775807 : Int)) ∧ I10 (l12 ++ [(0, List.getD (List.take (Int.toNat (List.getD l0 (Int.toNat 1) 0))
 (List.drop (Int.toNat 2) l0)) (n13.toNat) 0 % 16 + 1, (List.getD (List.take (Int.toNat (List.getD l0 (Int.toNat 1) 0)) (List.drop (Int.toNat 2) l0)) (n13.toNat) 0 - 128) / 16 + 2)]) (n13 + 1) ∧ m11 (l12 ++ [(0, List.getD (List.take
 (Int.toNat (List.getD l0 (Int.toNat 1) 0)) (List.drop (Int.toNat 2) l0)) (n13.toNat) 0 % 16 + 1, (List.getD (List.take (Int.toNat (List.getD l0 (Int.toNat 1) 0)) (List.drop (Int.toNat 2) l0)) (n13.toNat) 0 - 128) / 16 + 2)]) (n13 + 1) < m11
 l12 n13) ∧ (¬128 ≤ List.getD (List.take (Int.toNat (List.getD l0 (Int.toNat 1) 0)) (List.drop (Int.toNat 2) l0)) (n13.toNat) 0 → (↑(l12.length + List.length [(List.getD (List.take (Int.toNat (List.getD l0 (Int.toNat 1) 0)) (List.drop
 (Int.toNat 2) l0)) (n13.toNat) 0, 0, 0)]) : Int) ≤ 1099511627776 ∧ (-9223372036854775808 ≤ n13 + 1 ∧ n13 + (1 : Int) ≤ (9223372036854775807 : Int)) ∧ I10 (l12 ++ [(List.getD (List.take (Int.toNat (List.getD l0 (Int.toNat 1) 0)) (List.drop
 (Int.toNat 2) l0)) (n13.toNat) 0, 0, 0)]) (n13 + 1) ∧ m11 (l12 ++ [(List.getD (List.take (Int.toNat (List.getD l0 (Int.toNat 1) 0)) (List.drop (Int.toNat 2) l0)) (n13.toNat) 0, 0, 0)]) (n13 + 1) < m11 l12 n13)) ∧ (¬n13 < (↑(List.length
 (List.take (Int.toNat (List.getD l0 (Int.toNat 1) 0)) (List.drop (Int.toNat 2) l0))) : Int) → (l12.length : Int) ≤ 1099511627776 ∧ ∀ (l14 : List Int), (true = Option.isSome (expand l12) ∧ l14 = Option.getD (expand l12) [] → true =
 Option.isSome (listD l0) ∧ l14 = Option.getD (listD l0) []) ∧ (false = Option.isSome (expand l12) ∧ l14 = Option.getD (expand l12) [] → false = Option.isSome (listD l0) ∧ l14 = Option.getD (listD l0) [])))) ∧ (¬List.getD l0 (Int.toNat 0) (0
 : Int) = 3 → false = Option.isSome (listD l0) ∧ [] = Option.getD (listD l0) []))))
theorem v_i_listIn : V_i_listIn := by
  unfold V_i_listIn
  rintro b ⟨hz, hin, h2⟩
  have e2 : Int.toNat 2 = 2 := rfl
  have e4 : Int.toNat 4 = 4 := rfl
  have e0 : b.getD (Int.toNat 0) 0 = b.getD 0 0 := rfl
  have e1 : b.getD (Int.toNat 1) 0 = b.getD 1 0 := rfl
  have hn := allIn_iff.1 hin _ (at_mem (i := 1) (by omega) (by omega))
  rw [e1] at hn
  rw [e0, e1, e2, e4]
  have hrl : ((b.drop 2).length : Int) = b.length - 2 := by simp; omega
  have hrin := allIn_drop 2 hin
  generalize hR : b.drop 2 = R at *
  have no : listD b = none → false = (listD b).isSome ∧ [] = (listD b).getD [] := fun h => by rw [h]; exact ⟨rfl, rfl⟩
  have yes : ∀ l, listD b = some l → true = (listD b).isSome ∧ l = (listD b).getD [] := fun l h => by rw [h]; exact ⟨rfl, rfl⟩
  have hdef : listD b = if b.getD 0 0 = 0 then (if (R.length : Int) < b.getD 1 0 then none else some (R.take (b.getD 1 0).toNat))
      else if b.getD 0 0 = 1 then (if (R.length : Int) < 2 * b.getD 1 0 then none else joinD (unflat (b.getD 1 0).toNat R))
      else if b.getD 0 0 = 2 then (if R.length < 4 then none else (decD (bitsB ((R.drop 4).take 40)) (unlens (R.take 4)) (b.getD 1 0)).map fun r => r.1)
      else if b.getD 0 0 = 3 then (if (R.length : Int) < b.getD 1 0 then none else expand ((R.take (b.getD 1 0).toNat).map byteTok))
      else none := by unfold listD; rw [hR]
  generalize b.getD 1 0 = n at *
  generalize b.getD 0 0 = w at *
  refine ⟨by omega, by omega, by omega, by omega, by omega, by omega, fun h0 => ⟨fun hs => no (by rw [hdef, if_pos h0, if_pos hs]), fun hs => ⟨hn.1, by omega, yes _ (by rw [hdef, if_pos h0, if_neg hs])⟩⟩, fun h0 => ⟨fun h1 => ?_, fun h1 => ⟨fun h2 => ⟨fun hs => no (by rw [hdef, if_neg h0, if_neg h1, if_pos h2, if_pos (by omega)]), fun hs => ?_⟩, fun h2 => ⟨fun h3 => ⟨fun hs => no (by rw [hdef, if_neg h0, if_neg h1, if_neg h2, if_pos h3, if_pos hs]), fun hs => ⟨hn.1, by omega, ?_⟩⟩, fun h3 => no (by rw [hdef, if_neg h0, if_neg h1, if_neg h2, if_neg h3])⟩⟩⟩⟩
  · rw [if_neg h0, if_pos h1] at hdef
    refine ⟨fun rs k => 0 ≤ k ∧ k ≤ n ∧ 2 * k ≤ R.length ∧ rs = unflat k.toNat R, fun rs k => (n - k).toNat, ?_, ?_⟩ <;> dsimp only
    · exact ⟨by omega, by omega, by omega, rfl⟩
    rintro rs k ⟨k0, k1, k2, rfl⟩
    have hul := unflat_len k.toNat R
    refine ⟨fun hk => ⟨by omega, by omega, fun hs => no (by rw [hdef, if_pos (by omega)]), fun hs => ?_⟩, fun hk => ?_⟩
    · have hst := unflat_step k.toNat R (by omega)
      rw [show 2 * k.toNat + 1 = (2 * k + 1).toNat by omega, show 2 * k.toNat = (2 * k).toNat by omega, show k.toNat + 1 = (k + 1).toNat by omega] at hst
      exact ⟨by omega, by omega, by omega, by omega, by omega, by omega, by omega, by simp only [List.length_cons, List.length_nil]; omega, by omega, ⟨by omega, by omega, by omega, hst.symm⟩, by omega⟩
    · rw [if_neg (by omega), ← show k = n by omega] at hdef
      rw [hdef]
      exact ⟨by omega, fun l => ⟨fun q => q, fun q => q⟩⟩
  · have hl40 : (bitsB ((R.drop 4).take 40)).length ≤ 320 := by rw [bitsB_len, List.length_take]; omega
    have hul := unlens_len (R.take 4)
    have htl : (R.take 4).length ≤ 4 := by simp; omega
    rw [if_neg h0, if_neg h1, if_pos h2, if_neg (by omega)] at hdef
    refine ⟨by omega, by omega, ⟨_, rfl⟩, ⟨by simp; omega, allIn_drop 4 hrin⟩, ?_⟩
    rintro bs rfl
    refine ⟨by omega, by omega, ⟨_, rfl⟩, ⟨by omega, allIn_take 4 hrin⟩, ?_⟩
    rintro ls rfl
    rw [hdef]
    refine ⟨⟨_, _, _, rfl, rfl⟩, ⟨by omega, by omega⟩, fun l m => ⟨map_fst, map_fst⟩⟩
  · rw [if_neg h0, if_neg h1, if_neg h2, if_pos h3, if_neg hs] at hdef
    have hyl : ((R.take n.toNat).length : Int) = n := by simp; omega
    have hyin := allIn_iff.1 (allIn_take n.toNat hrin)
    generalize R.take n.toNat = Y at *
    refine ⟨fun ts k => 0 ≤ k ∧ k ≤ n ∧ ts = (Y.take k.toNat).map byteTok, fun ts k => (n - k).toNat, ?_, ?_⟩ <;> dsimp only
    · exact ⟨by omega, by omega, rfl⟩
    rintro ts k ⟨k0, k1, rfl⟩
    have htl := len_take (l := Y) k0 (by omega)
    refine ⟨fun hk => ?_, fun hk => ?_⟩
    · have hx := hyin _ (at_mem k0 hk)
      have hst := byteTok_step k0 hk
      refine ⟨k0, hk, fun h128 => ?_, fun h128 => ?_⟩
      · have hb : byteTok (Y.getD k.toNat 0) = (0, Y.getD k.toNat 0 % 16 + 1, (Y.getD k.toNat 0 - 128) / 16 + 2) := if_neg (by omega)
        rw [hb] at hst
        exact ⟨by omega, by omega, by omega, by omega, by omega, by omega, by omega, by omega, by simp only [List.length_cons, List.length_nil, List.length_map]; omega, by omega, ⟨by omega, by omega, hst.symm⟩, by omega⟩
      · have hb : byteTok (Y.getD k.toNat 0) = (Y.getD k.toNat 0, 0, 0) := if_pos (by omega)
        rw [hb] at hst
        exact ⟨by simp only [List.length_cons, List.length_nil, List.length_map]; omega, by omega, ⟨by omega, by omega, hst.symm⟩, by omega⟩
    · rw [take_ge hk, hdef]
      exact ⟨by simp; omega, fun l => ⟨fun q => q, fun q => q⟩⟩
def V_i_alike : Prop :=
  ∀ (l0 l1 : List Int), (l0.length : Int) ≤ 1099511627776 ∧ (l1.length : Int) ≤ 1099511627776 → ((l0.length : Int) ≠ (l1.length : Int) → false = decide (l0 = l1)) ∧ (¬(l0.length : Int) ≠ (l1.length : Int) → ∃ (I2 : Int → Prop), ∃ (m3 : Int →
 Nat), I2 0 ∧ ∀ (n4 : Int), I2 n4 → (n4 < (l0.length : Int) → 0 ≤ n4 ∧ n4 < (l0.length : Int) ∧ 0 ≤ n4 ∧ n4 < (l1.length : Int) ∧ (List.getD l0 (n4.toNat) 0 ≠ List.getD l1 (n4.toNat) 0 → false = decide (l0 = l1)) ∧ (¬List.getD l0 (n4.toNat) 0
 ≠ List.getD l1 (n4.toNat) 0 → (-9223372036854775808 ≤ n4 + 1 ∧ n4 + (1 : Int) ≤ (9223372036854775807 : Int)) ∧ I2 (n4 + 1) ∧ m3 (n4 + 1) < m3 n4)) ∧ (¬n4 < (l0.length : Int) → true = decide (l0 = l1)))
theorem v_i_alike : V_i_alike := by
  unfold V_i_alike
  rintro a b ⟨ha, hb⟩
  refine ⟨fun h => ?_, fun h => ?_⟩
  · have : a ≠ b := fun e => h (by rw [e])
    simp [this]
  refine ⟨fun i => 0 ≤ i ∧ i ≤ a.length ∧ (a.drop i.toNat = b.drop i.toNat ↔ a = b), fun i => (a.length - i).toNat, ?_, ?_⟩ <;> dsimp only
  · simp
  rintro i ⟨h0, h1, h2⟩
  refine ⟨fun hlt => ?_, fun hge => ?_⟩
  · rw [drop_lt 0 h0 hlt, drop_lt 0 h0 (show i < (b.length : Int) by omega)] at h2
    grind
  · rw [drop_ge hge, drop_ge (show ¬ i < (b.length : Int) by omega)] at h2
    simp [← h2]
def V_s_l2Same : Prop :=
  ∀ (l0 l1 : List Int), (l0.length : Int) ≤ 1099511627776 ∧ (l1.length : Int) ≤ 1099511627776 → ((l0.length : Int) ≠ (l1.length : Int) → false = decide (l0 = l1)) ∧ (¬(l0.length : Int) ≠ (l1.length : Int) → ∃ (I2 : Int → Prop), ∃ (m3 : Int →
 Nat), I2 0 ∧ ∀ (n4 : Int), I2 n4 → (n4 < (l0.length : Int) → 0 ≤ n4 ∧ n4 < (l0.length : Int) ∧ 0 ≤ n4 ∧ n4 < (l1.length : Int) ∧ (List.getD l0 (n4.toNat) 0 ≠ List.getD l1 (n4.toNat) 0 → false = decide (l0 = l1)) ∧ (¬List.getD l0 (n4.toNat) 0
 ≠ List.getD l1 (n4.toNat) 0 → (-9223372036854775808 ≤ n4 + 1 ∧ n4 + (1 : Int) ≤ (9223372036854775807 : Int)) ∧ I2 (n4 + 1) ∧ m3 (n4 + 1) < m3 n4)) ∧ (¬n4 < (l0.length : Int) → true = decide (l0 = l1)))
theorem v_s_l2Same : V_s_l2Same := by
  unfold V_s_l2Same
  rintro a b ⟨ha, hb⟩
  refine ⟨fun h => ?_, fun h => ?_⟩
  · have : a ≠ b := fun e => h (by rw [e])
    simp [this]
  refine ⟨fun i => 0 ≤ i ∧ i ≤ a.length ∧ (a.drop i.toNat = b.drop i.toNat ↔ a = b), fun i => (a.length - i).toNat, ?_, ?_⟩ <;> dsimp only
  · simp
  rintro i ⟨h0, h1, h2⟩
  refine ⟨fun hlt => ?_, fun hge => ?_⟩
  · rw [drop_lt 0 h0 hlt, drop_lt 0 h0 (show i < (b.length : Int) by omega)] at h2
    grind
  · rw [drop_ge hge, drop_ge (show ¬ i < (b.length : Int) by omega)] at h2
    simp [← h2]
def V_i_BlockOpen : Prop :=
  ∀ (l0 : List Int), (l0.length : Int) ≤ 1099511627776 → (l0.length : Int) ≤ 1099511627776 ∧ (true = allIn 0 255 l0 → ((l0.length : Int) < 2 → false = Option.isSome (openD l0) ∧ ([], 0) = Option.getD (openD l0) ([], 0)) ∧ (¬(l0.length : Int) <
 2 → ((l0.length : Int) ≤ 1099511627776 ∧ allIn 0 255 l0 = true ∧ 2 ≤ (l0.length : Int)) ∧ ∀ (l1 : List Int), (true = Option.isSome (listD l0) ∧ l1 = Option.getD (listD l0) [] → (0 : Int) ≤ 0 ∧ 0 < (l0.length : Int) ∧ (l1.length : Int) ≤
 1099511627776 ∧ ∀ (l2 : List Int), (true = Option.isSome (blockAs l1 (List.getD l0 (Int.toNat 0) 0)) ∧ l2 = Option.getD (blockAs l1 (List.getD l0 (Int.toNat 0) 0)) [] ∧ (l2.length : Int) ≤ 82 → ((l0.length : Int) < (l2.length : Int) → false
 = Option.isSome (openD l0) ∧ ([], 0) = Option.getD (openD l0) ([], 0)) ∧ (¬(l0.length : Int) < (l2.length : Int) → 0 ≤ (l2.length : Int) ∧ (l2.length : Int) ≤ (l0.length : Int) ∧ ((l2.length : Int) ≤ 1099511627776 ∧ (↑(List.length (List.take
 (Int.toNat (l2.length : Int)) l0)) : Int) ≤ 1099511627776) ∧ (true = decide (l2 = List.take (Int.toNat (l2.length : Int)) l0) → (l1.length : Int) ≤ 1099511627776 ∧ ∀ (l3 : List Int), l3 = l1 → true = Option.isSome (openD l0) ∧ (l3,
 (l2.length : Int)) = Option.getD (openD l0) ([], 0)) ∧ (false = decide (l2 = List.take (Int.toNat (l2.length : Int)) l0) → false = Option.isSome (openD l0) ∧ ([], 0) = Option.getD (openD l0) ([], 0)))) ∧ (false = Option.isSome (blockAs l1
 (List.getD l0 (Int.toNat 0) 0)) ∧ l2 = Option.getD (blockAs l1 (List.getD l0 (Int.toNat 0) 0)) [] ∧ (l2.length : Int) ≤ 82 → false = Option.isSome (openD l0) ∧ ([], 0) = Option.getD (openD l0) ([], 0))) ∧ (false = Option.isSome (listD l0) ∧
 l1 = Option.getD (listD l0) [] → false = Option.isSome (openD l0) ∧ ([], 0) = Option.getD (openD l0) ([], 0)))) ∧ (false = allIn 0 255 l0 → false = Option.isSome (openD l0) ∧ ([], 0) = Option.getD (openD l0) ([], 0))
theorem v_i_BlockOpen : V_i_BlockOpen := by
  unfold V_i_BlockOpen
  intro b hz
  have e0 : b.getD (Int.toNat 0) 0 = b.getD 0 0 := rfl
  rw [e0]
  have no : openD b = none → (false = (openD b).isSome ∧ (([] : List Int), (0 : Int)) = (openD b).getD ([], 0)) := fun h => by rw [h]; exact ⟨rfl, rfl⟩
  refine ⟨hz, fun hb => ⟨fun h2 => no (openD_short h2), fun h2 => ⟨⟨hz, hb.symm, by omega⟩, ?_⟩⟩, fun hb => no (openD_bad hb)⟩
  have hD := openD_def hb h2
  intro l
  refine ⟨?_, ?_⟩
  · rintro ⟨q, rfl⟩
    obtain ⟨l, hl⟩ := some_of q
    have hll := listD_len hl
    rw [hl] at hD ⊢
    simp only [Option.getD_some]
    refine ⟨by omega, by omega, by omega, fun x => ⟨?_, ?_⟩⟩
    · rintro ⟨q2, rfl, h82⟩
      obtain ⟨x, hx⟩ := some_of q2
      rw [hx] at h82 ⊢
      simp only [Option.getD_some, Int.toNat_natCast] at h82 ⊢
      have hB : openD b = if x.length ≤ b.length ∧ x = b.take x.length then some (l, (x.length : Int)) else none := by rw [hD]; unfold blockOf; simp only [Option.bind_some, hx]
      refine ⟨fun hlt => no (by rw [hB, if_neg (by omega)]), fun hge => ⟨by omega, by omega, ⟨by omega, by simp; omega⟩, fun he => ⟨by omega, ?_⟩, fun hne => no (by rw [hB, if_neg (fun q => by rw [decide_eq_true q.2] at hne; cases hne)])⟩⟩
      rintro r rfl
      simp only [true_eq_decide_iff] at he
      rw [hB, if_pos ⟨by omega, he⟩]; exact ⟨rfl, rfl⟩
    · rintro ⟨q2, rfl, h82⟩
      exact no (by rw [hD]; unfold blockOf; simp only [Option.bind_some, none_of q2, Option.bind_none])
  · rintro ⟨q, rfl⟩
    exact no (by rw [hD, none_of q]; rfl)
def V_s_l21OpenRuns : Prop :=
  ∀ (l0 : List Int), (l0.length : Int) ≤ 1099511627776 ∧ allIn 0 255 l0 = true ∧ 2 ≤ (l0.length : Int) → ∃ (I1 : List (Int × Int) → Int → Prop), ∃ (m2 : List (Int × Int) → Int → Nat), I1 [] 0 ∧ ∀ (l3 : List (Int × Int)) (n4 : Int), I1 l3 n4 →
 (0 : Int) ≤ 1 ∧ 1 < (l0.length : Int) ∧ (n4 < List.getD l0 (Int.toNat 1) 0 → ((-9223372036854775808 : Int) ≤ 2 * n4 ∧ 2 * n4 ≤ (9223372036854775807 : Int)) ∧ ((-9223372036854775808 : Int) ≤ 3 + 2 * n4 ∧ 3 + 2 * n4 ≤ (9223372036854775807 :
 Int)) ∧ (3 + 2 * n4 < (l0.length : Int) → ((-9223372036854775808 : Int) ≤ 2 * n4 ∧ 2 * n4 ≤ (9223372036854775807 : Int)) ∧ ((-9223372036854775808 : Int) ≤ 2 + 2 * n4 ∧ 2 + 2 * n4 ≤ (9223372036854775807 : Int)) ∧ (0 : Int) ≤ 2 + 2 * n4 ∧ 2 +
 2 * n4 < (l0.length : Int) ∧ ((-9223372036854775808 : Int) ≤ 2 * n4 ∧ 2 * n4 ≤ (9223372036854775807 : Int)) ∧ ((-9223372036854775808 : Int) ≤ 3 + 2 * n4 ∧ 3 + 2 * n4 ≤ (9223372036854775807 : Int)) ∧ (0 : Int) ≤ 3 + 2 * n4 ∧ 3 + 2 * n4 <
 (l0.length : Int) ∧ (↑(l3.length + List.length [(List.getD l0 (Int.toNat (2 + 2 * n4)) 0, List.getD l0 (Int.toNat (3 + 2 * n4)) 0)]) : Int) ≤ 1099511627776 ∧ (-9223372036854775808 ≤ n4 + 1 ∧ n4 + (1 : Int) ≤ (9223372036854775807 : Int)) ∧ I1
 (l3 ++ [(List.getD l0 (Int.toNat (2 + 2 * n4)) 0, List.getD l0 (Int.toNat (3 + 2 * n4)) 0)]) (n4 + 1) ∧ m2 (l3 ++ [(List.getD l0 (Int.toNat (2 + 2 * n4)) 0, List.getD l0 (Int.toNat (3 + 2 * n4)) 0)]) (n4 + 1) < m2 l3 n4) ∧ (¬3 + 2 * n4 <
 (l0.length : Int) → (l3.length : Int) ≤ 1099511627776 ∧ ∀ (l5 : List Int), (true = Option.isSome (joinD l3) ∧ l5 = Option.getD (joinD l3) [] → true = Option.isSome (joinD (unflat (Int.toNat (List.getD l0 1 0)) (List.drop 2 l0))) ∧ l5 =
 Option.getD (joinD (unflat (Int.toNat (List.getD l0 1 0)) (List.drop 2 l0))) []) ∧ (false = Option.isSome (joinD l3) ∧ l5 = Option.getD (joinD l3) [] → false = Option.isSome (joinD (unflat (Int.toNat (List.getD l0 1 0)) (List.drop 2 l0))) ∧
 l5 = Option.getD (joinD (unflat (Int.toNat (List.getD l0 1 0)) (List.drop 2 l0))) []))) ∧ (¬n4 < List.getD l0 (Int.toNat 1) 0 → (l3.length : Int) ≤ 1099511627776 ∧ ∀ (l6 : List Int), (true = Option.isSome (joinD l3) ∧ l6 = Option.getD (joinD
 l3) [] → true = Option.isSome (joinD (unflat (Int.toNat (List.getD l0 1 0)) (List.drop 2 l0))) ∧ l6 = Option.getD (joinD (unflat (Int.toNat (List.getD l0 1 0)) (List.drop 2 l0))) []) ∧ (false = Option.isSome (joinD l3) ∧ l6 = Option.getD
 (joinD l3) [] → false = Option.isSome (joinD (unflat (Int.toNat (List.getD l0 1 0)) (List.drop 2 l0))) ∧ l6 = Option.getD (joinD (unflat (Int.toNat (List.getD l0 1 0)) (List.drop 2 l0))) []))
theorem v_s_l21OpenRuns : V_s_l21OpenRuns := by
  unfold V_s_l21OpenRuns
  rintro b ⟨hz, hin, h2⟩
  have e1 : b.getD (Int.toNat 1) 0 = b.getD 1 0 := rfl
  have hn := allIn_iff.1 hin _ (at_mem (i := 1) (by omega) (by omega))
  rw [e1] at hn ⊢
  have hrl : ((b.drop 2).length : Int) = b.length - 2 := by simp; omega
  have hget : ∀ k : Nat, b.getD (2 + k) 0 = (b.drop 2).getD k 0 := fun k => (drop2_get b k).symm
  have hrin := allIn_drop 2 hin
  generalize hR : b.drop 2 = R at *
  generalize b.getD 1 0 = n at *
  refine ⟨fun rs k => 0 ≤ k ∧ k ≤ n ∧ 2 * k ≤ R.length ∧ rs = unflat k.toNat R, fun rs k => (n - k).toNat, ?_, ?_⟩ <;> dsimp only
  · exact ⟨by omega, by omega, by omega, rfl⟩
  rintro rs k ⟨k0, k1, k2, rfl⟩
  have hul := unflat_len k.toNat R
  refine ⟨by omega, by omega, fun hk => ⟨by omega, by omega, fun hs => ?_, fun hs => ?_⟩, fun hk => ?_⟩
  · have hst := unflat_step k.toNat R (by omega)
    rw [← hget, ← hget, show 2 + (2 * k.toNat + 1) = (3 + 2 * k).toNat by omega, show 2 + 2 * k.toNat = (2 + 2 * k).toNat by omega, show k.toNat + 1 = (k + 1).toNat by omega] at hst
    exact ⟨by omega, by omega, by omega, by omega, by omega, by omega, by omega, by omega, by simp only [List.length_cons, List.length_nil]; omega, by omega, ⟨by omega, by omega, by omega, hst.symm⟩, by omega⟩
  · rw [unflat_stop k.toNat n.toNat R (by omega) (by omega) (by omega)]
    exact ⟨by omega, fun l => ⟨fun q => q, fun q => q⟩⟩
  · rw [show k = n by omega] at hul ⊢
    exact ⟨by omega, fun l => ⟨fun q => q, fun q => q⟩⟩
def V_s_l21OpenPrefix : Prop :=
  ∀ (l0 : List Int), (l0.length : Int) ≤ 1099511627776 ∧ allIn 0 255 l0 = true ∧ 2 ≤ (l0.length : Int) → ∃ (I1 : List Int → Int → Prop), ∃ (m2 : List Int → Int → Nat), I1 [] 2 ∧ ∀ (l3 : List Int) (n4 : Int), I1 l3 n4 → (n4 < 6 → (n4 <
 (l0.length : Int) → 0 ≤ n4 ∧ n4 < (l0.length : Int) ∧ 0 ≤ List.getD l0 (n4.toNat) 0 ∧ (0 : Int) < 16 ∧ (-9223372036854775808 ≤ List.getD l0 (n4.toNat) 0 / 16 ∧ List.getD l0 (n4.toNat) 0 / (16 : Int) ≤ (9223372036854775807 : Int)) ∧ 0 ≤ n4 ∧
 n4 < (l0.length : Int) ∧ 0 ≤ List.getD l0 (n4.toNat) 0 ∧ (0 : Int) < 16 ∧ (↑(l3.length + List.length [List.getD l0 (n4.toNat) 0 / 16, List.getD l0 (n4.toNat) 0 % 16]) : Int) ≤ 1099511627776 ∧ (-9223372036854775808 ≤ n4 + 1 ∧ n4 + (1 : Int) ≤
 (9223372036854775807 : Int)) ∧ I1 (l3 ++ [List.getD l0 (n4.toNat) 0 / 16, List.getD l0 (n4.toNat) 0 % 16]) (n4 + 1) ∧ m2 (l3 ++ [List.getD l0 (n4.toNat) 0 / 16, List.getD l0 (n4.toNat) 0 % 16]) (n4 + 1) < m2 l3 n4) ∧ (¬n4 < (l0.length : Int)
 → ∃ (I5 : List Int → Int → Prop), ∃ (m6 : List Int → Int → Nat), I5 [] 6 ∧ ∀ (l7 : List Int) (n8 : Int), I5 l7 n8 → (n8 < (l0.length : Int) → (-9223372036854775808 ≤ (l7.length : Int) + 8 ∧ (l7.length : Int) + (8 : Int) ≤
 (9223372036854775807 : Int)) ∧ ((l7.length : Int) + (8 : Int) ≤ 600 → 0 ≤ n8 ∧ n8 < (l0.length : Int) ∧ (0 ≤ List.getD l0 (n8.toNat) 0 ∧ List.getD l0 (n8.toNat) (0 : Int) ≤ 100000000 ∧ (0 : Int) ≤ 8 ∧ (8 : Int) ≤ 16) ∧ ∀ (l9 : List Int), l9
 = bitsOf (Int.toNat 8) (List.getD l0 (n8.toNat) 0) → (↑(l7.length + l9.length) : Int) ≤ 1099511627776 ∧ (-9223372036854775808 ≤ n8 + 1 ∧ n8 + (1 : Int) ≤ (9223372036854775807 : Int)) ∧ I5 (l7 ++ l9) (n8 + 1) ∧ m6 (l7 ++ l9) (n8 + 1) < m6 l7
 n8) ∧ (¬(l7.length : Int) + (8 : Int) ≤ 600 → (0 : Int) ≤ 1 ∧ 1 < (l0.length : Int) ∧ ((l7.length : Int) ≤ 1099511627776 ∧ (l3.length : Int) ≤ 1099511627776) ∧ ∀ (l10 : List Int) (n11 : Int), (true = Option.isSome (decD l7 l3 (List.getD l0
 (Int.toNat 1) 0)) ∧ (l10, n11) = Option.getD (decD l7 l3 (List.getD l0 (Int.toNat 1) 0)) ([], 0) → true = Option.isSome (Option.map (fun (r : List Int × Int) ↦ Prod.fst r) (decD (bitsB (List.take 75 (List.drop 4 (List.drop 2 l0)))) (unlens
 (List.take 4 (List.drop 2 l0))) (List.getD l0 1 0))) ∧ l10 = Option.getD (Option.map (fun (r : List Int × Int) ↦ Prod.fst r) (decD (bitsB (List.take 75 (List.drop 4 (List.drop 2 l0)))) (unlens (List.take 4 (List.drop 2 l0))) (List.getD l0 1
 0))) []) ∧ (false = Option.isSome (decD l7 l3 (List.getD l0 (Int.toNat 1) 0)) ∧ (l10, n11) = Option.getD (decD l7 l3 (List.getD l0 (Int.toNat 1) 0)) ([], 0) → false = Option.isSome (Option.map (fun (r : List Int × Int) ↦ Prod.fst r) (decD
 (bitsB (List.take 75 (List.drop 4 (List.drop 2 l0)))) (unlens (List.take 4 (List.drop 2 l0))) (List.getD l0 1 0))) ∧ l10 = Option.getD (Option.map (fun (r : List Int × Int) ↦ Prod.fst r) (decD (bitsB (List.take 75 (List.drop 4 (List.drop 2
 l0)))) (unlens (List.take 4 (List.drop 2 l0))) (List.getD l0 1 0))) []))) ∧ (¬n8 < (l0.length : Int) → (0 : Int) ≤ 1 ∧ 1 < (l0.length : Int) ∧ ((l7.length : Int) ≤ 1099511627776 ∧ (l3.length : Int) ≤ 1099511627776) ∧ ∀ (l12 : List Int) (n13
 : Int), (true = Option.isSome (decD l7 l3 (List.getD l0 (Int.toNat 1) 0)) ∧ (l12, n13) = Option.getD (decD l7 l3 (List.getD l0 (Int.toNat 1) 0)) ([], 0) → true = Option.isSome (Option.map (fun (r : List Int × Int) ↦ Prod.fst r) (decD (bitsB
 (List.take 75 (List.drop 4 (List.drop 2 l0)))) (unlens (List.take 4 (List.drop 2 l0))) (List.getD l0 1 0))) ∧ l12 = Option.getD (Option.map (fun (r : List Int × Int) ↦ Prod.fst r) (decD (bitsB (List.take 75 (List.drop 4 (List.drop 2 l0))))
 (unlens (List.take 4 (List.drop 2 l0))) (List.getD l0 1 0))) []) ∧ (false = Option.isSome (decD l7 l3 (List.getD l0 (Int.toNat 1) 0)) ∧ (l12, n13) = Option.getD (decD l7 l3 (List.getD l0 (Int.toNat 1) 0)) ([], 0) → false = Option.isSome
 (Option.map (fun (r : List Int × Int) ↦ Prod.fst r) (decD (bitsB (List.take 75 (List.drop 4 (List.drop 2 l0)))) (unlens (List.take 4 (List.drop 2 l0))) (List.getD l0 1 0))) ∧ l12 = Option.getD (Option.map (fun (r : List Int × Int) ↦ Prod.fst
 r) (decD (bitsB (List.take 75 (List.drop 4 (List.drop 2 l0)))) (unlens (List.take 4 (List.drop 2 l0))) (List.getD l0 1 0))) [])))) ∧ (¬n4 < 6 → ∃ (I14 : List Int → Int → Prop), ∃ (m15 : List Int → Int → Nat), I14 [] 6 ∧ ∀ (l16 : List Int)
 (n17 : Int), I14 l16 n17 → (n17 < (l0.length : Int) → (-9223372036854775808 ≤ (l16.length : Int) + 8 ∧ (l16.length : Int) + (8 : Int) ≤ (9223372036854775807 : Int)) ∧ ((l16.length : Int) + (8 : Int) ≤ 600 → 0 ≤ n17 ∧ n17 < (l0.length : Int)
 ∧ (0 ≤ List.getD l0 (n17.toNat) 0 ∧ List.getD l0 (n17.toNat) (0 : Int) ≤ 100000000 ∧ (0 : Int) ≤ 8 ∧ (8 : Int) ≤ 16) ∧ ∀ (l18 : List Int), l18 = bitsOf (Int.toNat 8) (List.getD l0 (n17.toNat) 0) → (↑(l16.length + l18.length) : Int) ≤
 1099511627776 ∧ (-9223372036854775808 ≤ n17 + 1 ∧ n17 + (1 : Int) ≤ (9223372036854775807 : Int)) ∧ I14 (l16 ++ l18) (n17 + 1) ∧ m15 (l16 ++ l18) (n17 + 1) < m15 l16 n17) ∧ (¬(l16.length : Int) + (8 : Int) ≤ 600 → (0 : Int) ≤ 1 ∧ 1 <
 (l0.length : Int) ∧ ((l16.length : Int) ≤ 1099511627776 ∧ (l3.length : Int) ≤ 1099511627776) ∧ ∀ (l19 : List Int) (n20 : Int), (true = Option.isSome (decD l16 l3 (List.getD l0 (Int.toNat 1) 0)) ∧ (l19, n20) = Option.getD (decD l16 l3
 (List.getD l0 (Int.toNat 1) 0)) ([], 0) → true = Option.isSome (Option.map (fun (r : List Int × Int) ↦ Prod.fst r) (decD (bitsB (List.take 75 (List.drop 4 (List.drop 2 l0)))) (unlens (List.take 4 (List.drop 2 l0))) (List.getD l0 1 0))) ∧ l19
 = Option.getD (Option.map (fun (r : List Int × Int) ↦ Prod.fst r) (decD (bitsB (List.take 75 (List.drop 4 (List.drop 2 l0)))) (unlens (List.take 4 (List.drop 2 l0))) (List.getD l0 1 0))) []) ∧ (false = Option.isSome (decD l16 l3 (List.getD
 l0 (Int.toNat 1) 0)) ∧ (l19, n20) = Option.getD (decD l16 l3 (List.getD l0 (Int.toNat 1) 0)) ([], 0) → false = Option.isSome (Option.map (fun (r : List Int × Int) ↦ Prod.fst r) (decD (bitsB (List.take 75 (List.drop 4 (List.drop 2 l0))))
 (unlens (List.take 4 (List.drop 2 l0))) (List.getD l0 1 0))) ∧ l19 = Option.getD (Option.map (fun (r : List Int × Int) ↦ Prod.fst r) (decD (bitsB (List.take 75 (List.drop 4 (List.drop 2 l0)))) (unlens (List.take 4 (List.drop 2 l0)))
 (List.getD l0 1 0))) []))) ∧ (¬n17 < (l0.length : Int) → (0 : Int) ≤ 1 ∧ 1 < (l0.length : Int) ∧ ((l16.length : Int) ≤ 1099511627776 ∧ (l3.length : Int) ≤ 1099511627776) ∧ ∀ (l21 : List Int) (n22 : Int), (true = Option.isSome (decD l16 l3
 (List.getD l0 (Int.toNat 1) 0)) ∧ (l21, n22) = Option.getD (decD l16 l3 (List.getD l0 (Int.toNat 1) 0)) ([], 0) → true = Option.isSome (Option.map (fun (r : List Int × Int) ↦ Prod.fst r) (decD (bitsB (List.take 75 (List.drop 4 (List.drop 2
 l0)))) (unlens (List.take 4 (List.drop 2 l0))) (List.getD l0 1 0))) ∧ l21 = Option.getD (Option.map (fun (r : List Int × Int) ↦ Prod.fst r) (decD (bitsB (List.take 75 (List.drop 4 (List.drop 2 l0)))) (unlens (List.take 4 (List.drop 2 l0)))
 (List.getD l0 1 0))) []) ∧ (false = Option.isSome (decD l16 l3 (List.getD l0 (Int.toNat 1) 0)) ∧ (l21, n22) = Option.getD (decD l16 l3 (List.getD l0 (Int.toNat 1) 0)) ([], 0) → false = Option.isSome (Option.map (fun (r : List Int × Int) ↦
 Prod.fst r) (decD (bitsB (List.take 75 (List.drop 4 (List.drop 2 l0)))) (unlens (List.take 4 (List.drop 2 l0))) (List.getD l0 1 0))) ∧ l21 = Option.getD (Option.map (fun (r : List Int × Int) ↦ Prod.fst r) (decD (bitsB (List.take 75
 (List.drop 4 (List.drop 2 l0)))) (unlens (List.take 4 (List.drop 2 l0))) (List.getD l0 1 0))) [])))
theorem v_s_l21OpenPrefix : V_s_l21OpenPrefix := by
  unfold V_s_l21OpenPrefix
  rintro b ⟨hz, hin, h2⟩
  have e1 : b.getD (Int.toNat 1) 0 = b.getD 1 0 := rfl
  have hn := allIn_iff.1 hin _ (at_mem (i := 1) (by omega) (by omega))
  rw [e1] at hn ⊢
  have hrl : ((b.drop 2).length : Int) = b.length - 2 := by simp; omega
  have hget : ∀ k : Nat, b.getD (2 + k) 0 = (b.drop 2).getD k 0 := fun k => (drop2_get b k).symm
  have hrin := allIn_drop 2 hin
  generalize hR : b.drop 2 = R at *
  have hXl : ((R.drop 4).length : Int) = b.length - 6 ∨ (R.drop 4).length = 0 ∧ (b.length : Int) ≤ 6 := by rw [List.length_drop]; omega
  have hgX : ∀ k : Nat, (R.drop 4).getD k 0 = b.getD (6 + k) 0 := fun k => by
    rw [show 6 + k = 2 + (4 + k) by omega, hget]; simp [List.getD_eq_getElem?_getD, List.getElem?_drop]
  have hinX : ∀ k : Nat, k < (R.drop 4).length → 0 ≤ (R.drop 4).getD k 0 ∧ (R.drop 4).getD k 0 ≤ 255 := fun k hk => allIn_iff.1 (allIn_drop 4 hrin) _ (by
    have e : (R.drop 4).getD k 0 = (R.drop 4)[k] := by rw [List.getD_eq_getElem?_getD, List.getElem?_eq_getElem hk]; rfl
    rw [e]; exact List.getElem_mem hk)
  generalize R.drop 4 = X at *
  have hul4 := unlens_len (R.take 4)
  have htl4 : (R.take 4).length ≤ 4 := by simp; omega
  refine ⟨fun ls i => 2 ≤ i ∧ i ≤ 6 ∧ i ≤ b.length ∧ ls = unlens (R.take (i - 2).toNat), fun ls i => (6 - i).toNat, ?_, ?_⟩ <;> dsimp only
  · exact ⟨by omega, by omega, by omega, rfl⟩
  rintro ls i ⟨i0, i1, i2, rfl⟩
  have hul := unlens_len (R.take (i - 2).toNat)
  have htl := List.length_take (i := (i - 2).toNat) (l := R)
  refine ⟨fun hi => ⟨fun hb => ?_, fun hb => ?_⟩, fun hi => ?_⟩
  · have hst := unlens_step (b := R) (i := i - 2) (by omega) (by omega)
    rw [← hget, show 2 + (i - 2).toNat = i.toNat by omega, show i - 2 + 1 = i + 1 - 2 by omega] at hst
    have hx := allIn_iff.1 hin _ (at_mem (i := i) (by omega) hb)
    exact ⟨by omega, hb, by omega, by omega, by omega, by omega, hb, by omega, by omega, by simp only [List.length_cons, List.length_nil]; omega, by omega, ⟨by omega, by omega, by omega, hst.symm⟩, by omega⟩
  · rw [show R.take (i - 2).toNat = R.take 4 by rw [List.take_of_length_le (by omega), List.take_of_length_le (by omega)]]
    clear i0 i1 i2 hul htl hi hb i
    refine ⟨fun bs i => 6 ≤ i ∧ i ≤ 81 ∧ (i ≤ b.length ∨ i = 6) ∧ bs = bitsB (X.take (i - 6).toNat), fun bs i => (b.length - i).toNat, ?_, ?_⟩ <;> dsimp only
    · exact ⟨by omega, by omega, .inr rfl, rfl⟩
    rintro bs i ⟨i0, i1, i2, rfl⟩
    have hbl := bitsB_len (X.take (i - 6).toNat)
    have htl : ((X.take (i - 6).toNat).length : Int) = i - 6 ∨ ((X.take (i - 6).toNat).length = 0 ∧ i = 6) := by
      rcases i2 with q | q
      · left; rw [List.length_take]; omega
      · right; exact ⟨by rw [List.length_take]; omega, q⟩
    have hfin : (i = 81 ∨ ¬ i < (b.length : Int)) → (0 ≤ 1 ∧ (1 : Int) < b.length ∧ (((bitsB (X.take (i - 6).toNat)).length : Int) ≤ 1099511627776 ∧ ((unlens (R.take 4)).length : Int) ≤ 1099511627776) ∧ bitsB (X.take (i - 6).toNat) = bitsB (X.take 75)) := fun h => by
      refine ⟨by omega, by omega, ⟨by omega, by omega⟩, ?_⟩
      rcases h with h | h
      · rw [show (i - 6).toNat = 75 by omega]
      · rw [List.take_of_length_le (by omega), List.take_of_length_le (by omega)]
    refine ⟨fun hi => ⟨by omega, fun hs => ?_, fun hs => ?_⟩, fun hi => ?_⟩
    · have hx := hinX (i - 6).toNat (by omega)
      have hst := bitsB_step (b := X) (i := i - 6) (by omega) (by omega)
      rw [show i - 6 + 1 = i + 1 - 6 by omega, hgX (i - 6).toNat, show 6 + (i - 6).toNat = i.toNat by omega] at hst
      rw [hgX, show 6 + (i - 6).toNat = i.toNat by omega] at hx
      refine ⟨by omega, hi, ⟨hx.1, by omega, by omega, by omega⟩, ?_⟩
      rintro y rfl
      exact ⟨by rw [bitsOf_len]; omega, by omega, ⟨by omega, by omega, .inl (by omega), hst.symm⟩, by omega⟩
    · obtain ⟨f1, f2, f3, f4⟩ := hfin (.inl (by omega))
      rw [f4] at f3 ⊢
      exact ⟨by omega, f2, f3, fun l m => ⟨map_fst, map_fst⟩⟩
    · obtain ⟨f1, f2, f3, f4⟩ := hfin (.inr hi)
      rw [f4] at f3 ⊢
      exact ⟨by omega, f2, f3, fun l m => ⟨map_fst, map_fst⟩⟩
  · rw [show (i - 2).toNat = 4 by omega]
    clear i0 i1 i2 hul htl hi i
    refine ⟨fun bs i => 6 ≤ i ∧ i ≤ 81 ∧ (i ≤ b.length ∨ i = 6) ∧ bs = bitsB (X.take (i - 6).toNat), fun bs i => (b.length - i).toNat, ?_, ?_⟩ <;> dsimp only
    · exact ⟨by omega, by omega, .inr rfl, rfl⟩
    rintro bs i ⟨i0, i1, i2, rfl⟩
    have hbl := bitsB_len (X.take (i - 6).toNat)
    have htl : ((X.take (i - 6).toNat).length : Int) = i - 6 ∨ ((X.take (i - 6).toNat).length = 0 ∧ i = 6) := by
      rcases i2 with q | q
      · left; rw [List.length_take]; omega
      · right; exact ⟨by rw [List.length_take]; omega, q⟩
    have hfin : (i = 81 ∨ ¬ i < (b.length : Int)) → (0 ≤ 1 ∧ (1 : Int) < b.length ∧ (((bitsB (X.take (i - 6).toNat)).length : Int) ≤ 1099511627776 ∧ ((unlens (R.take 4)).length : Int) ≤ 1099511627776) ∧ bitsB (X.take (i - 6).toNat) = bitsB (X.take 75)) := fun h => by
      refine ⟨by omega, by omega, ⟨by omega, by omega⟩, ?_⟩
      rcases h with h | h
      · rw [show (i - 6).toNat = 75 by omega]
      · rw [List.take_of_length_le (by omega), List.take_of_length_le (by omega)]
    refine ⟨fun hi => ⟨by omega, fun hs => ?_, fun hs => ?_⟩, fun hi => ?_⟩
    · have hx := hinX (i - 6).toNat (by omega)
      have hst := bitsB_step (b := X) (i := i - 6) (by omega) (by omega)
      rw [show i - 6 + 1 = i + 1 - 6 by omega, hgX (i - 6).toNat, show 6 + (i - 6).toNat = i.toNat by omega] at hst
      rw [hgX, show 6 + (i - 6).toNat = i.toNat by omega] at hx
      refine ⟨by omega, hi, ⟨hx.1, by omega, by omega, by omega⟩, ?_⟩
      rintro y rfl
      exact ⟨by rw [bitsOf_len]; omega, by omega, ⟨by omega, by omega, .inl (by omega), hst.symm⟩, by omega⟩
    · obtain ⟨f1, f2, f3, f4⟩ := hfin (.inl (by omega))
      rw [f4] at f3 ⊢
      exact ⟨by omega, f2, f3, fun l m => ⟨map_fst, map_fst⟩⟩
    · obtain ⟨f1, f2, f3, f4⟩ := hfin (.inr hi)
      rw [f4] at f3 ⊢
      exact ⟨by omega, f2, f3, fun l m => ⟨map_fst, map_fst⟩⟩
def V_s_l21OpenTokens : Prop :=
  ∀ (l0 : List Int), (l0.length : Int) ≤ 1099511627776 ∧ allIn 0 255 l0 = true ∧ 2 ≤ (l0.length : Int) → ∃ (I1 : List (Int × Int × Int) → Int → Prop), ∃ (m2 : List (Int × Int × Int) → Int → Nat), I1 [] 0 ∧ ∀ (l3 : List (Int × Int × Int)) (n4 :
 Int), I1 l3 n4 → (0 : Int) ≤ 1 ∧ 1 < (l0.length : Int) ∧ (n4 < List.getD l0 (Int.toNat 1) 0 → ((-9223372036854775808 : Int) ≤ 2 + n4 ∧ 2 + n4 ≤ (9223372036854775807 : Int)) ∧ (2 + n4 < (l0.length : Int) → ((-9223372036854775808 : Int) ≤ 2 +
 n4 ∧ 2 + n4 ≤ (9223372036854775807 : Int)) ∧ (0 : Int) ≤ 2 + n4 ∧ 2 + n4 < (l0.length : Int) ∧ (List.getD l0 (Int.toNat (2 + n4)) (0 : Int) < 128 → (↑(l3.length + List.length [(List.getD l0 (Int.toNat (2 + n4)) 0, 0, 0)]) : Int) ≤
 1099511627776 ∧ (-9223372036854775808 ≤ n4 + 1 ∧ n4 + (1 : Int) ≤ (9223372036854775807 : Int)) ∧ I1 (l3 ++ [(List.getD l0 (Int.toNat (2 + n4)) 0, 0, 0)]) (n4 + 1) ∧ m2 (l3 ++ [(List.getD l0 (Int.toNat (2 + n4)) 0, 0, 0)]) (n4 + 1) < m2 l3
 n4) ∧ (¬List.getD l0 (Int.toNat (2 + n4)) (0 : Int) < 128 → 0 ≤ List.getD l0 (Int.toNat (2 + n4)) 0 ∧ (0 : Int) < 16 ∧ (-9223372036854775808 ≤ List.getD l0 (Int.toNat (2 + n4)) 0 % 16 + 1 ∧ List.getD l0 (Int.toNat (2 + n4)) 0 % 16 + (1 :
 Int) ≤ (9223372036854775807 : Int)) ∧ (-9223372036854775808 ≤ List.getD l0 (Int.toNat (2 + n4)) 0 - 128 ∧ List.getD l0 (Int.toNat (2 + n4)) 0 - (128 : Int) ≤ (9223372036854775807 : Int)) ∧ 0 ≤ List.getD l0 (Int.toNat (2 + n4)) 0 - 128 ∧ (0 :
 Int) < 16 ∧ (-9223372036854775808 ≤ (List.getD l0 (Int.toNat (2 + n4)) 0 - 128) / 16 ∧ (List.getD l0 (Int.toNat (2 + n4)) 0 - 128) / (16 : Int) ≤ (9223372036854775807 : Int)) ∧ (-9223372036854775808 ≤ (List.getD l0 (Int.toNat (2 + n4)) 0 -
 128) / 16 + 2 ∧ (List.getD l0 (Int.toNat (2 + n4)) 0 - 128) / 16 + (2 : Int) ≤ (9223372036854775807 : Int)) ∧ (↑(l3.length + List.length [(0, List.getD l0 (Int.toNat (2 + n4)) 0 % 16 + 1, (List.getD l0 (Int.toNat (2 + n4)) 0 - 128) / 16 +
 2)]) : Int) ≤ 1099511627776 ∧ (-9223372036854775808 ≤ n4 + 1 ∧ n4 + (1 : Int) ≤ (9223372036854775807 : Int)) ∧ I1 (l3 ++ [(0, List.getD l0 (Int.toNat (2 + n4)) 0 % 16 + 1, (List.getD l0 (Int.toNat (2 + n4)) 0 - 128) / 16 + 2)]) (n4 + 1) ∧ m2
 (l3 ++ [(0, List.getD l0 (Int.toNat (2 + n4)) 0 % 16 + 1, (List.getD l0 (Int.toNat (2 + n4)) 0 - 128) / 16 + 2)]) (n4 + 1) < m2 l3 n4)) ∧ (¬2 + n4 < (l0.length : Int) → (l3.length : Int) ≤ 1099511627776 ∧ ∀ (l5 : List Int), (true =
 Option.isSome (expand l3) ∧ l5 = Option.getD (expand l3) [] → true = Option.isSome (expand (List.map byteTok (List.take (Int.toNat (List.getD l0 1 0)) (List.drop 2 l0)))) ∧ l5 = Option.getD (expand (List.map byteTok (List.take (Int.toNat
 (List.getD l0 1 0)) (List.drop 2 l0)))) []) ∧ (false = Option.isSome (expand l3) ∧ l5 = Option.getD (expand l3) [] → false = Option.isSome (expand (List.map byteTok (List.take (Int.toNat (List.getD l0 1 0)) (List.drop 2 l0)))) ∧ l5 =
 Option.getD (expand (List.map byteTok (List.take (Int.toNat (List.getD l0 1 0)) (List.drop 2 l0)))) []))) ∧ (¬n4 < List.getD l0 (Int.toNat 1) 0 → (l3.length : Int) ≤ 1099511627776 ∧ ∀ (l6 : List Int), (true = Option.isSome (expand l3) ∧ l6 =
 Option.getD (expand l3) [] → true = Option.isSome (expand (List.map byteTok (List.take (Int.toNat (List.getD l0 1 0)) (List.drop 2 l0)))) ∧ l6 = Option.getD (expand (List.map byteTok (List.take (Int.toNat (List.getD l0 1 0)) (List.drop 2
 l0)))) []) ∧ (false = Option.isSome (expand l3) ∧ l6 = Option.getD (expand l3) [] → false = Option.isSome (expand (List.map byteTok (List.take (Int.toNat (List.getD l0 1 0)) (List.drop 2 l0)))) ∧ l6 = Option.getD (expand (List.map byteTok
 (List.take (Int.toNat (List.getD l0 1 0)) (List.drop 2 l0)))) []))
theorem v_s_l21OpenTokens : V_s_l21OpenTokens := by
  unfold V_s_l21OpenTokens
  rintro b ⟨hz, hin, h2⟩
  have e1 : b.getD (Int.toNat 1) 0 = b.getD 1 0 := rfl
  have hn := allIn_iff.1 hin _ (at_mem (i := 1) (by omega) (by omega))
  rw [e1] at hn ⊢
  have hrl : ((b.drop 2).length : Int) = b.length - 2 := by simp; omega
  have hget : ∀ k : Nat, b.getD (2 + k) 0 = (b.drop 2).getD k 0 := fun k => (drop2_get b k).symm
  have hrin := allIn_drop 2 hin
  generalize hR : b.drop 2 = R at *
  generalize b.getD 1 0 = n at *
  refine ⟨fun ts k => 0 ≤ k ∧ k ≤ n ∧ k ≤ R.length ∧ ts = (R.take k.toNat).map byteTok, fun ts k => (n - k).toNat, ?_, ?_⟩ <;> dsimp only
  · exact ⟨by omega, by omega, by omega, rfl⟩
  rintro ts k ⟨k0, k1, k2, rfl⟩
  have htl := len_take (l := R) k0 k2
  refine ⟨by omega, by omega, fun hk => ⟨by omega, fun hs => ⟨by omega, by omega, by omega, ?_⟩, fun hs => ?_⟩, fun hk => ?_⟩
  · have hx := allIn_iff.1 hin _ (at_mem (i := 2 + k) (by omega) hs)
    have hst := byteTok_step (b := R) k0 (by omega)
    rw [← hget, show 2 + k.toNat = (2 + k).toNat by omega] at hst
    refine ⟨fun h128 => ?_, fun h128 => ?_⟩
    · have hb : byteTok (b.getD (2 + k).toNat 0) = (b.getD (2 + k).toNat 0, 0, 0) := if_pos h128
      rw [hb] at hst
      exact ⟨by simp only [List.length_cons, List.length_nil, List.length_map]; omega, by omega, ⟨by omega, by omega, by omega, hst.symm⟩, by omega⟩
    · have hb : byteTok (b.getD (2 + k).toNat 0) = (0, b.getD (2 + k).toNat 0 % 16 + 1, (b.getD (2 + k).toNat 0 - 128) / 16 + 2) := if_neg h128
      rw [hb] at hst
      exact ⟨by omega, by omega, by omega, by omega, by omega, by omega, by omega, by omega, by simp only [List.length_cons, List.length_nil, List.length_map]; omega, by omega, ⟨by omega, by omega, by omega, hst.symm⟩, by omega⟩
  · rw [show R.take k.toNat = R.take n.toNat by rw [List.take_of_length_le (by omega), List.take_of_length_le (by omega)]]
    exact ⟨by simp; omega, fun l => ⟨fun q => q, fun q => q⟩⟩
  · rw [show k = n by omega] at htl ⊢
    exact ⟨by simp; omega, fun l => ⟨fun q => q, fun q => q⟩⟩
def V_s_l21Open : Prop :=
  ∀ (l0 : List Int), (l0.length : Int) ≤ 1099511627776 ∧ allIn 0 255 l0 = true ∧ 2 ≤ (l0.length : Int) → (0 : Int) ≤ 0 ∧ 0 < (l0.length : Int) ∧ (List.getD l0 (Int.toNat 0) (0 : Int) = 1 → ((l0.length : Int) ≤ 1099511627776 ∧ allIn 0 255 l0 =
 true ∧ 2 ≤ (l0.length : Int)) ∧ ∀ (l1 : List Int), (true = Option.isSome (joinD (unflat (Int.toNat (List.getD l0 1 0)) (List.drop 2 l0))) ∧ l1 = Option.getD (joinD (unflat (Int.toNat (List.getD l0 1 0)) (List.drop 2 l0))) [] → true =
 Option.isSome (listS l0) ∧ (true = true → l1 = Option.getD (listS l0) [])) ∧ (false = Option.isSome (joinD (unflat (Int.toNat (List.getD l0 1 0)) (List.drop 2 l0))) ∧ l1 = Option.getD (joinD (unflat (Int.toNat (List.getD l0 1 0)) (List.drop
 2 l0))) [] → false = Option.isSome (listS l0) ∧ (false = true → l1 = Option.getD (listS l0) []))) ∧ (¬List.getD l0 (Int.toNat 0) (0 : Int) = 1 → (List.getD l0 (Int.toNat 0) (0 : Int) = 2 → ((l0.length : Int) ≤ 1099511627776 ∧ allIn 0 255 l0
 = true ∧ 2 ≤ (l0.length : Int)) ∧ ∀ (l2 : List Int), (true = Option.isSome (Option.map (fun (r : List Int × Int) ↦ Prod.fst r) (decD (bitsB (List.take 75 (List.drop 4 (List.drop 2 l0)))) (unlens (List.take 4 (List.drop 2 l0))) (List.getD l0
 1 0))) ∧ l2 = Option.getD (Option.map (fun (r : List Int × Int) ↦ Prod.fst r) (decD (bitsB (List.take 75 (List.drop 4 (List.drop 2 l0)))) (unlens (List.take 4 (List.drop 2 l0))) (List.getD l0 1 0))) [] → true = Option.isSome (listS l0) ∧
 (true = true → l2 = Option.getD (listS l0) [])) ∧ (false = Option.isSome (Option.map (fun (r : List Int × Int) ↦ Prod.fst r) (decD (bitsB (List.take 75 (List.drop 4 (List.drop 2 l0)))) (unlens (List.take 4 (List.drop 2 l0))) (List.getD l0 1
 0))) ∧ l2 = Option.getD (Option.map (fun (r : List Int × Int) ↦ Prod.fst r) (decD (bitsB (List.take 75 (List.drop 4 (List.drop 2 l0)))) (unlens (List.take 4 (List.drop 2 l0))) (List.getD l0 1 0))) [] → false = Option.isSome (listS l0) ∧
 (false = true → l2 = Option.getD (listS l0) []))) ∧ (¬List.getD l0 (Int.toNat 0) (0 : Int) = 2 → (List.getD l0 (Int.toNat 0) (0 : Int) = 3 → ((l0.length : Int) ≤ 1099511627776 ∧ allIn 0 255 l0 = true ∧ 2 ≤ (l0.length : Int)) ∧ ∀ (l3 : List
 Int), (true = Option.isSome (expand (List.map byteTok (List.take (Int.toNat (List.getD l0 1 0)) (List.drop 2 l0)))) ∧ l3 = Option.getD (expand (List.map byteTok (List.take (Int.toNat (List.getD l0 1 0)) (List.drop 2 l0)))) [] → true =
 Option.isSome (listS l0) ∧ (true = true → l3 = Option.getD (listS l0) [])) ∧ (false = Option.isSome (expand (List.map byteTok (List.take (Int.toNat (List.getD l0 1 0)) (List.drop 2 l0)))) ∧ l3 = Option.getD (expand (List.map byteTok
 (List.take (Int.toNat (List.getD l0 1 0)) (List.drop 2 l0)))) [] → false = Option.isSome (listS l0) ∧ (false = true → l3 = Option.getD (listS l0) []))) ∧ (¬List.getD l0 (Int.toNat 0) (0 : Int) = 3 → (0 : Int) ≤ 1 ∧ 1 < (l0.length : Int) ∧
 ((-9223372036854775808 : Int) ≤ 2 + List.getD l0 (Int.toNat 1) 0 ∧ 2 + List.getD l0 (Int.toNat 1) (0 : Int) ≤ (9223372036854775807 : Int)) ∧ (0 : Int) ≤ 2 ∧ 2 ≤ min (2 + List.getD l0 (Int.toNat 1) 0) (l0.length : Int) ∧ min (2 + List.getD l0
 (Int.toNat 1) 0) (l0.length : Int) ≤ (l0.length : Int) ∧ (↑(0 + List.length (List.drop (Int.toNat 2) (List.take (Int.toNat (min (2 + List.getD l0 (Int.toNat 1) 0) (l0.length : Int))) l0))) : Int) ≤ 1099511627776 ∧ (0 : Int) ≤ 0 ∧ 0 <
 (l0.length : Int) ∧ (List.getD l0 (Int.toNat 0) (0 : Int) = 0 → true = Option.isSome (listS l0) ∧ (true = true → List.drop (Int.toNat 2) (List.take (Int.toNat (min (2 + List.getD l0 (Int.toNat 1) 0) (l0.length : Int))) l0) = Option.getD
 (listS l0) [])) ∧ (¬List.getD l0 (Int.toNat 0) (0 : Int) = 0 → false = Option.isSome (listS l0) ∧ (false = true → List.drop (Int.toNat 2) (List.take (Int.toNat (min (2 + List.getD l0 (Int.toNat 1) 0) (l0.length : Int))) l0) = Option.getD
 (listS l0) [])))))
theorem v_s_l21Open : V_s_l21Open := by
  unfold V_s_l21Open
  rintro b ⟨hz, hin, h2⟩
  have e0 : b.getD (Int.toNat 0) 0 = b.getD 0 0 := rfl
  have e1 : b.getD (Int.toNat 1) 0 = b.getD 1 0 := rfl
  have e2 : Int.toNat 2 = 2 := rfl
  have hn := allIn_iff.1 hin _ (at_mem (i := 1) (by omega) (by omega))
  rw [e1] at hn
  rw [e0, e1, e2]
  have hdef : listS b = if b.getD 0 0 = 0 then some ((b.drop 2).take (b.getD 1 0).toNat)
      else if b.getD 0 0 = 1 then joinD (unflat (b.getD 1 0).toNat (b.drop 2))
      else if b.getD 0 0 = 2 then (decD (bitsB (((b.drop 2).drop 4).take 75)) (unlens ((b.drop 2).take 4)) (b.getD 1 0)).map fun r => r.1
      else if b.getD 0 0 = 3 then expand (((b.drop 2).take (b.getD 1 0).toNat).map byteTok)
      else none := rfl
  have hcut : (b.take (min (2 + b.getD 1 0) (b.length : Int)).toNat).drop 2 = (b.drop 2).take (b.getD 1 0).toNat := by
    rw [List.drop_take]
    by_cases h : 2 + b.getD 1 0 ≤ (b.length : Int)
    · congr 1; omega
    · rw [List.take_of_length_le (by rw [List.length_drop]; omega), List.take_of_length_le (by rw [List.length_drop]; omega)]
  rw [hcut]
  have hcl : ((b.drop 2).take (b.getD 1 0).toNat).length ≤ b.length := by rw [List.length_take, List.length_drop]; omega
  generalize b.getD 0 0 = w at *
  refine ⟨by omega, by omega, fun w1 => ⟨⟨hz, hin, h2⟩, ?_⟩, fun w1 => ⟨fun w2 => ⟨⟨hz, hin, h2⟩, ?_⟩, fun w2 => ⟨fun w3 => ⟨⟨hz, hin, h2⟩, ?_⟩, fun w3 => ⟨by omega, by omega, by omega, by omega, by omega, by omega, by omega, by omega, by omega, fun w0 => ?_, fun w0 => ?_⟩⟩⟩⟩
  · rw [if_neg (by omega), if_pos w1] at hdef
    rw [hdef]
    exact fun l => ⟨fun q => ⟨q.1, fun _ => q.2⟩, fun q => ⟨q.1, fun _ => q.2⟩⟩
  · rw [if_neg (by omega), if_neg w1, if_pos w2] at hdef
    rw [hdef]
    exact fun l => ⟨fun q => ⟨q.1, fun _ => q.2⟩, fun q => ⟨q.1, fun _ => q.2⟩⟩
  · rw [if_neg (by omega), if_neg w1, if_neg w2, if_pos w3] at hdef
    rw [hdef]
    exact fun l => ⟨fun q => ⟨q.1, fun _ => q.2⟩, fun q => ⟨q.1, fun _ => q.2⟩⟩
  · rw [if_pos w0] at hdef
    rw [hdef]; exact ⟨rfl, fun _ => rfl⟩
  · rw [if_neg w0, if_neg w1, if_neg w2, if_neg w3] at hdef
    rw [hdef]; exact ⟨rfl, fun q => by cases q⟩
def V_s_l21Size : Prop :=
  ∀ (l0 : List Int), (l0.length : Int) ≤ 1099511627776 ∧ allIn 0 255 l0 = true ∧ 2 ≤ (l0.length : Int) → ((l0.length : Int) ≤ 1099511627776 ∧ allIn 0 255 l0 = true ∧ 2 ≤ (l0.length : Int)) ∧ ∀ (l1 : List Int), (true = Option.isSome (listS l0)
 ∧ (true = true → l1 = Option.getD (listS l0) []) → (0 : Int) ≤ 0 ∧ 0 < (l0.length : Int) ∧ (l1.length : Int) ≤ 1099511627776 ∧ ∀ (l2 : List Int), (true = Option.isSome (blockAs l1 (List.getD l0 (Int.toNat 0) 0)) ∧ l2 = Option.getD (blockAs
 l1 (List.getD l0 (Int.toNat 0) 0)) [] ∧ (l2.length : Int) ≤ 82 → ((l0.length : Int) < (l2.length : Int) → -1 = blockLen l0) ∧ (¬(l0.length : Int) < (l2.length : Int) → 0 ≤ (l2.length : Int) ∧ (l2.length : Int) ≤ (l0.length : Int) ∧
 ((l2.length : Int) ≤ 1099511627776 ∧ (↑(List.length (List.take (Int.toNat (l2.length : Int)) l0)) : Int) ≤ 1099511627776) ∧ (true = decide (l2 = List.take (Int.toNat (l2.length : Int)) l0) → (l2.length : Int) = blockLen l0) ∧ (false = decide
 (l2 = List.take (Int.toNat (l2.length : Int)) l0) → -1 = blockLen l0))) ∧ (false = Option.isSome (blockAs l1 (List.getD l0 (Int.toNat 0) 0)) ∧ l2 = Option.getD (blockAs l1 (List.getD l0 (Int.toNat 0) 0)) [] ∧ (l2.length : Int) ≤ 82 → -1 =
 blockLen l0)) ∧ (false = Option.isSome (listS l0) ∧ (false = true → l1 = Option.getD (listS l0) []) → -1 = blockLen l0)
theorem v_s_l21Size : V_s_l21Size := by
  unfold V_s_l21Size
  rintro b ⟨hz, hin, h2⟩
  have e0 : b.getD (Int.toNat 0) 0 = b.getD 0 0 := rfl
  rw [e0]
  have no : openD b = none → -1 = blockLen b := fun h => by unfold blockLen; rw [h]; rfl
  have hD := (openD_def hin.symm (by omega)).trans (open_same hin).symm
  refine ⟨⟨hz, hin, h2⟩, fun l => ⟨?_, ?_⟩⟩
  · rintro ⟨q, hq⟩
    obtain rfl := hq rfl
    obtain ⟨l, hl⟩ := some_of q
    have hll := listS_len hl
    rw [hl] at hD ⊢
    simp only [Option.getD_some]
    refine ⟨by omega, by omega, by omega, fun x => ⟨?_, ?_⟩⟩
    · rintro ⟨q2, rfl, h82⟩
      obtain ⟨x, hx⟩ := some_of q2
      rw [hx] at h82 ⊢
      simp only [Option.getD_some, Int.toNat_natCast] at h82 ⊢
      have hB : openD b = if x.length ≤ b.length ∧ x = b.take x.length then some (l, (x.length : Int)) else none := by rw [hD]; unfold blockOf; simp only [Option.bind_some, hx]
      refine ⟨fun hlt => no (by rw [hB, if_neg (by omega)]), fun hge => ⟨by omega, by omega, ⟨by omega, by simp; omega⟩, fun he => ?_, fun hne => no (by rw [hB, if_neg (fun q => by rw [decide_eq_true q.2] at hne; cases hne)])⟩⟩
      simp only [true_eq_decide_iff] at he
      unfold blockLen
      rw [hB, if_pos ⟨by omega, he⟩]; rfl
    · rintro ⟨q2, rfl, h82⟩
      exact no (by rw [hD]; unfold blockOf; simp only [Option.bind_some, none_of q2, Option.bind_none])
  · rintro ⟨q, _⟩
    exact no (by rw [hD, none_of q]; rfl)
def V_s_BlockOpen : Prop :=
  ∀ (l0 : List Int), (l0.length : Int) ≤ 1099511627776 → (l0.length : Int) ≤ 1099511627776 ∧ (true = allIn 0 255 l0 → ((l0.length : Int) < 2 → false = Option.isSome (openD l0) ∧ ([], 0) = Option.getD (openD l0) ([], 0)) ∧ (¬(l0.length : Int) <
 2 → ((l0.length : Int) ≤ 1099511627776 ∧ allIn 0 255 l0 = true ∧ 2 ≤ (l0.length : Int)) ∧ ∀ (n1 : Int), n1 = blockLen l0 → (n1 < 0 → false = Option.isSome (openD l0) ∧ ([], 0) = Option.getD (openD l0) ([], 0)) ∧ (¬n1 < 0 → ((l0.length : Int)
 ≤ 1099511627776 ∧ allIn 0 255 l0 = true ∧ 2 ≤ (l0.length : Int)) ∧ ∀ (l2 : List Int), (true = Option.isSome (listS l0) ∧ (true = true → l2 = Option.getD (listS l0) []) → ((l0.length : Int) ≤ 1099511627776 ∧ allIn 0 255 l0 = true ∧ 2 ≤
 (l0.length : Int)) ∧ ∀ (n3 : Int), n3 = blockLen l0 → true = Option.isSome (openD l0) ∧ (l2, n3) = Option.getD (openD l0) ([], 0)) ∧ (false = Option.isSome (listS l0) ∧ (false = true → l2 = Option.getD (listS l0) []) → ((l0.length : Int) ≤
 1099511627776 ∧ allIn 0 255 l0 = true ∧ 2 ≤ (l0.length : Int)) ∧ ∀ (n4 : Int), n4 = blockLen l0 → true = Option.isSome (openD l0) ∧ (l2, n4) = Option.getD (openD l0) ([], 0))))) ∧ (false = allIn 0 255 l0 → false = Option.isSome (openD l0) ∧
 ([], 0) = Option.getD (openD l0) ([], 0))
theorem v_s_BlockOpen : V_s_BlockOpen := by
  unfold V_s_BlockOpen
  intro b hz
  have no : openD b = none → (false = (openD b).isSome ∧ (([] : List Int), (0 : Int)) = (openD b).getD ([], 0)) := fun h => by rw [h]; exact ⟨rfl, rfl⟩
  refine ⟨hz, fun hb => ⟨fun h2 => no (openD_short h2), fun h2 => ⟨⟨hz, hb.symm, by omega⟩, ?_⟩⟩, fun hb => no (openD_bad hb)⟩
  unfold blockLen
  cases ho : openD b with
  | none =>
    rintro n rfl
    exact ⟨fun _ => ⟨rfl, rfl⟩, fun q => absurd (by decide) q⟩
  | some p =>
    obtain ⟨l, n⟩ := p
    obtain ⟨q1, q2, q3, q4⟩ := openD_nn ho
    simp only [Option.map_some, Option.getD_some]
    rintro m rfl
    refine ⟨fun q => by omega, fun _ => ⟨⟨hz, hb.symm, by omega⟩, fun r => ⟨?_, ?_⟩⟩⟩
    · rintro ⟨_, hr⟩
      obtain rfl := hr (by trivial)
      refine ⟨⟨hz, hb.symm, by omega⟩, ?_⟩
      rintro k rfl
      rw [q1]; exact ⟨rfl, rfl⟩
    · rintro ⟨q, _⟩
      rw [q1] at q; cases q
end Go.Proofs.Ytkkgpcbkkahieaa
