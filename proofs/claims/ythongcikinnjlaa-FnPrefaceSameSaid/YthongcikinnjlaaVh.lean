/-
  The conditions of functions, proved: h_preface.
-/
import Derived.Test.YthongcikinnjlaaM
set_option linter.unusedVariables false
set_option linter.unusedSimpArgs false
open Go Go.Ax Go.Mx
namespace Go.Proofs.Ythongcikinnjlaa
def V_l_toToken : Prop :=
  ∀ (n0 n1 n2 : Int), True → n0 = n0 ∧ n1 = n1 ∧ n2 = n2
theorem v_l_toToken : V_l_toToken := by
  unfold V_l_toToken
  simp
def V_l_eqToken : Prop :=
  ∀ (n0 n1 n2 n3 n4 n5 : Int), True → (n0 ≠ n3 → false = decide ((n0, n1, n2) = (n3, n4, n5))) ∧ (¬n0 ≠ n3 → (n1 ≠ n4 → false = decide ((n0, n1, n2) = (n3, n4, n5))) ∧ (¬n1 ≠ n4 → (n2 ≠ n5 → false = decide ((n0, n1, n2) = (n3, n4, n5))) ∧ (¬n2
    ≠ n5 → true = decide ((n0, n1, n2) = (n3, n4, n5)))))
theorem v_l_eqToken : V_l_eqToken := by
  unfold V_l_eqToken
  intros
  simp only [Prod.mk.injEq]
  grind
def V_l_toTokenS : Prop :=
  ∀ (l0 : List (Int × Int × Int)), (↑(List.length l0) : Int) ≤ 1099511627776 → (↑(List.length l0) : Int) = (↑(List.length l0) : Int) ∧ 0 ≤ (↑(List.length l0) : Int) ∧ (↑(List.length l0) : Int) ≤ 1099511627776 ∧ ∃ (I1 : Int → List (Int × Int ×
    Int) → Prop), ∃ (m2 : Int → List (Int × Int × Int) → Nat), I1 0 (List.replicate (Int.toNat (↑(List.length l0) : Int)) (0, 0, 0)) ∧ ∀ (n3 : Int) (l4 : List (Int × Int × Int)), I1 n3 l4 → (n3 < (↑(List.length l0) : Int) → 0 ≤ n3 ∧ n3 <
    (↑(List.length l0) : Int) ∧ True ∧ ∀ (n5 n6 n7 : Int), n5 = Prod.fst (List.getD l0 (Int.toNat n3) (0, 0, 0)) ∧ n6 = Prod.fst (Prod.snd (List.getD l0 (Int.toNat n3) (0, 0, 0))) ∧ n7 = Prod.snd (Prod.snd (List.getD l0 (Int.toNat n3) (0, 0,
    0))) → 0 ≤ n3 ∧ n3 < (↑(List.length l4) : Int) ∧ Int.toNat n3 < List.length l4 ∧ (-9223372036854775808 ≤ n3 + 1 ∧ n3 + (1 : Int) ≤ 9223372036854775807) ∧ I1 (n3 + 1) (List.set l4 (Int.toNat n3) (n5, n6, n7)) ∧ m2 (n3 + 1) (List.set l4 (Int.toNat n3)
    (n5, n6, n7)) < m2 n3 l4) ∧ (¬n3 < (↑(List.length l0) : Int) → l4 = l0)
theorem v_l_toTokenS : V_l_toTokenS := by
  unfold V_l_toTokenS
  intro l hz
  refine ⟨rfl, by omega, hz, ?_⟩
  refine ⟨fun i o => 0 ≤ i ∧ i ≤ l.length ∧ o = l.take i.toNat ++ List.replicate (l.length - i.toNat) (0, 0, 0), fun i o => (l.length - i).toNat, ?_, ?_⟩ <;> dsimp only
  · simp
  rintro i o ⟨h0, h1, rfl⟩
  refine ⟨fun hlt => ?_, fun hge => ?_⟩
  · have ht := len_take h0 h1
    obtain ⟨n, hn⟩ : ∃ n, l.length - i.toNat = n + 1 := ⟨l.length - i.toNat - 1, by omega⟩
    have hn' : l.length - (i + 1).toNat = n := by omega
    rw [hn, List.replicate_succ, hn', take_lt (0, 0, 0) h0 hlt]
    have hlen : (l.take i.toNat ++ (0, 0, 0) :: List.replicate n ((0, 0, 0) : P3)).length = l.length := by simp; omega
    rw [hlen]
    refine ⟨h0, hlt, trivial, ?_⟩
    rintro a b c ⟨rfl, rfl, rfl⟩
    rw [set_at ht]
    refine ⟨h0, hlt, by omega, by omega, ⟨by omega, by omega, by simp⟩, by omega⟩
  · have : l.length - i.toNat = 0 := by omega
    rw [take_ge hge, this]; simp
def V_l_szTokenS : Prop :=
  ∀ (l0 : List (Int × Int × Int)) (n1 : Int), (↑(List.length l0) : Int) ≤ 9223372036854775807 ∧ 0 ≤ n1 ∧ n1 ≤ 1000000000000000000 → (-9223372036854775808 ≤ n1 - (↑(List.length l0) : Int) ∧ n1 - (↑(List.length l0) : Int) ≤ 9223372036854775807)
    ∧ (n1 - (↑(List.length l0) : Int) < 0 → -1 = if n1 - (↑(List.length l0) : Int) < 0 then -1 else n1 - (↑(List.length l0) : Int)) ∧ (¬n1 - (↑(List.length l0) : Int) < 0 → n1 - (↑(List.length l0) : Int) = if n1 - (↑(List.length l0) : Int) < 0
    then -1 else n1 - (↑(List.length l0) : Int))
theorem v_l_szTokenS : V_l_szTokenS := by
  unfold V_l_szTokenS
  grind
def V_l_eqTokenS : Prop :=
  ∀ (l0 l1 : List (Int × Int × Int)), (↑(List.length l0) : Int) ≤ 1099511627776 ∧ (↑(List.length l1) : Int) ≤ 1099511627776 → ((↑(List.length l0) : Int) ≠ (↑(List.length l1) : Int) → false = decide (l0 = l1)) ∧ (¬(↑(List.length l0) : Int) ≠
    (↑(List.length l1) : Int) → ∃ (I2 : Int → Prop), ∃ (m3 : Int → Nat), I2 0 ∧ ∀ (n4 : Int), I2 n4 → (n4 < (↑(List.length l0) : Int) → 0 ≤ n4 ∧ n4 < (↑(List.length l0) : Int) ∧ 0 ≤ n4 ∧ n4 < (↑(List.length l1) : Int) ∧ (∃ (b : Bool), b = decide
    ((Prod.fst (List.getD l0 (Int.toNat n4) (0, 0, 0)), Prod.fst (Prod.snd (List.getD l0 (Int.toNat n4) (0, 0, 0))), Prod.snd (Prod.snd (List.getD l0 (Int.toNat n4) (0, 0, 0)))) = (Prod.fst (List.getD l1 (Int.toNat n4) (0, 0, 0)), Prod.fst
    (Prod.snd (List.getD l1 (Int.toNat n4) (0, 0, 0))), Prod.snd (Prod.snd (List.getD l1 (Int.toNat n4) (0, 0, 0)))))) ∧ True ∧ (true = decide ((Prod.fst (List.getD l0 (Int.toNat n4) (0, 0, 0)), Prod.fst (Prod.snd (List.getD l0 (Int.toNat n4)
    (0, 0, 0))), Prod.snd (Prod.snd (List.getD l0 (Int.toNat n4) (0, 0, 0)))) = (Prod.fst (List.getD l1 (Int.toNat n4) (0, 0, 0)), Prod.fst (Prod.snd (List.getD l1 (Int.toNat n4) (0, 0, 0))), Prod.snd (Prod.snd (List.getD l1 (Int.toNat n4) (0,
    0, 0))))) → (-9223372036854775808 ≤ n4 + 1 ∧ n4 + (1 : Int) ≤ 9223372036854775807) ∧ I2 (n4 + 1) ∧ m3 (n4 + 1) < m3 n4) ∧ (false = decide ((Prod.fst (List.getD l0 (Int.toNat n4) (0, 0, 0)), Prod.fst (Prod.snd (List.getD l0 (Int.toNat n4) (0, 0,
    0))), Prod.snd (Prod.snd (List.getD l0 (Int.toNat n4) (0, 0, 0)))) = (Prod.fst (List.getD l1 (Int.toNat n4) (0, 0, 0)), Prod.fst (Prod.snd (List.getD l1 (Int.toNat n4) (0, 0, 0))), Prod.snd (Prod.snd (List.getD l1 (Int.toNat n4) (0, 0,
    0))))) → false = decide (l0 = l1))) ∧ (¬n4 < (↑(List.length l0) : Int) → true = decide (l0 = l1)))
theorem v_l_eqTokenS : V_l_eqTokenS := by
  unfold V_l_eqTokenS
  rintro a b ⟨ha, hb⟩
  refine ⟨fun h => ?_, fun h => ?_⟩
  · have : a ≠ b := fun e => h (by rw [e])
    simp [this]
  refine ⟨fun i => 0 ≤ i ∧ i ≤ a.length ∧ (a.drop i.toNat = b.drop i.toNat ↔ a = b), fun i => (a.length - i).toNat, ?_, ?_⟩ <;> dsimp only
  · simp
  rintro i ⟨h0, h1, h2⟩
  refine ⟨fun hlt => ?_, fun hge => ?_⟩
  · rw [drop_lt (0, 0, 0) h0 hlt, drop_lt (0, 0, 0) h0 (show i < (b.length : Int) by omega)] at h2
    grind
  · rw [drop_ge hge, drop_ge (show ¬ i < (b.length : Int) by omega)] at h2
    simp [← h2]
def V_l_sameTokens : Prop :=
  ∀ (l0 l1 : List (Int × Int × Int)), (↑(List.length l0) : Int) ≤ 1099511627776 ∧ (↑(List.length l1) : Int) ≤ 1099511627776 → ((↑(List.length l0) : Int) ≠ (↑(List.length l1) : Int) → false = decide (l0 = l1)) ∧ (¬(↑(List.length l0) : Int) ≠
    (↑(List.length l1) : Int) → ∃ (I2 : Int → Prop), ∃ (m3 : Int → Nat), I2 0 ∧ ∀ (n4 : Int), I2 n4 → (n4 < (↑(List.length l0) : Int) → 0 ≤ n4 ∧ n4 < (↑(List.length l0) : Int) ∧ 0 ≤ n4 ∧ n4 < (↑(List.length l1) : Int) ∧ (¬(Prod.fst (List.getD l0
    (Int.toNat n4) (0, 0, 0)) = Prod.fst (List.getD l1 (Int.toNat n4) (0, 0, 0)) ∧ Prod.fst (Prod.snd (List.getD l0 (Int.toNat n4) (0, 0, 0))) = Prod.fst (Prod.snd (List.getD l1 (Int.toNat n4) (0, 0, 0))) ∧ Prod.snd (Prod.snd (List.getD l0
    (Int.toNat n4) (0, 0, 0))) = Prod.snd (Prod.snd (List.getD l1 (Int.toNat n4) (0, 0, 0)))) → false = decide (l0 = l1)) ∧ (¬¬(Prod.fst (List.getD l0 (Int.toNat n4) (0, 0, 0)) = Prod.fst (List.getD l1 (Int.toNat n4) (0, 0, 0)) ∧ Prod.fst
    (Prod.snd (List.getD l0 (Int.toNat n4) (0, 0, 0))) = Prod.fst (Prod.snd (List.getD l1 (Int.toNat n4) (0, 0, 0))) ∧ Prod.snd (Prod.snd (List.getD l0 (Int.toNat n4) (0, 0, 0))) = Prod.snd (Prod.snd (List.getD l1 (Int.toNat n4) (0, 0, 0)))) →
    (-9223372036854775808 ≤ n4 + 1 ∧ n4 + (1 : Int) ≤ 9223372036854775807) ∧ I2 (n4 + 1) ∧ m3 (n4 + 1) < m3 n4)) ∧ (¬n4 < (↑(List.length l0) : Int) → true = decide (l0 = l1)))
theorem v_l_sameTokens : V_l_sameTokens := by
  unfold V_l_sameTokens
  rintro a b ⟨ha, hb⟩
  refine ⟨fun h => ?_, fun h => ?_⟩
  · have : a ≠ b := fun e => h (by rw [e])
    simp [this]
  refine ⟨fun i => 0 ≤ i ∧ i ≤ a.length ∧ (a.drop i.toNat = b.drop i.toNat ↔ a = b), fun i => (a.length - i).toNat, ?_, ?_⟩ <;> dsimp only
  · simp
  rintro i ⟨h0, h1, h2⟩
  refine ⟨fun hlt => ?_, fun hge => ?_⟩
  · rw [drop_lt (0, 0, 0) h0 hlt, drop_lt (0, 0, 0) h0 (show i < (b.length : Int) by omega)] at h2
    grind
  · rw [drop_ge hge, drop_ge (show ¬ i < (b.length : Int) by omega)] at h2
    simp [← h2]
def V_l_markTokenS : Prop :=
  ∀ (l0 : List (Int × Int × Int)) (n1 : Int), (↑(List.length l0) : Int) ≤ 1099511627776 ∧ 0 ≤ n1 ∧ n1 ≤ 1000000000000000 → ∃ (I2 : Int → Int → List (Int × Int × Int) → Prop), ∃ (m3 : Int → Int → List (Int × Int × Int) → Nat), I2 n1 0 l0 ∧ ∀
    (n4 n5 : Int) (l6 : List (Int × Int × Int)), I2 n4 n5 l6 → (n5 < (↑(List.length l6) : Int) → 0 ≤ n5 ∧ n5 < (↑(List.length l6) : Int) ∧ Int.toNat n5 < List.length l6 ∧ (-9223372036854775808 ≤ n4 + 1 ∧ n4 + (1 : Int) ≤ 9223372036854775807) ∧ 0 ≤ n5 ∧
    n5 < (↑(List.length (List.set l6 (Int.toNat n5) (n4, Prod.fst (Prod.snd (List.getD l6 (Int.toNat n5) (0, 0, 0))), Prod.snd (Prod.snd (List.getD l6 (Int.toNat n5) (0, 0, 0)))))) : Int) ∧ Int.toNat n5 < List.length (List.set l6 (Int.toNat n5)
    (n4, Prod.fst (Prod.snd (List.getD l6 (Int.toNat n5) (0, 0, 0))), Prod.snd (Prod.snd (List.getD l6 (Int.toNat n5) (0, 0, 0))))) ∧ (-9223372036854775808 ≤ n4 + 1 + 1 ∧ n4 + 1 + (1 : Int) ≤ 9223372036854775807) ∧ 0 ≤ n5 ∧ n5 < (↑(List.length (List.set
    (List.set l6 (Int.toNat n5) (n4, Prod.fst (Prod.snd (List.getD l6 (Int.toNat n5) (0, 0, 0))), Prod.snd (Prod.snd (List.getD l6 (Int.toNat n5) (0, 0, 0))))) (Int.toNat n5) (Prod.fst (List.getD (List.set l6 (Int.toNat n5) (n4, Prod.fst
    (Prod.snd (List.getD l6 (Int.toNat n5) (0, 0, 0))), Prod.snd (Prod.snd (List.getD l6 (Int.toNat n5) (0, 0, 0))))) (Int.toNat n5) (0, 0, 0)), n4 + 1, Prod.snd (Prod.snd (List.getD (List.set l6 (Int.toNat n5) (n4, Prod.fst (Prod.snd (List.getD
    l6 (Int.toNat n5) (0, 0, 0))), Prod.snd (Prod.snd (List.getD l6 (Int.toNat n5) (0, 0, 0))))) (Int.toNat n5) (0, 0, 0)))))) : Int) ∧ Int.toNat n5 < List.length (List.set (List.set l6 (Int.toNat n5) (n4, Prod.fst (Prod.snd (List.getD l6
    (Int.toNat n5) (0, 0, 0))), Prod.snd (Prod.snd (List.getD l6 (Int.toNat n5) (0, 0, 0))))) (Int.toNat n5) (Prod.fst (List.getD (List.set l6 (Int.toNat n5) (n4, Prod.fst (Prod.snd (List.getD l6 (Int.toNat n5) (0, 0, 0))), Prod.snd (Prod.snd
    (List.getD l6 (Int.toNat n5) (0, 0, 0))))) (Int.toNat n5) (0, 0, 0)), n4 + 1, Prod.snd (Prod.snd (List.getD (List.set l6 (Int.toNat n5) (n4, Prod.fst (Prod.snd (List.getD l6 (Int.toNat n5) (0, 0, 0))), Prod.snd (Prod.snd (List.getD l6
    (Int.toNat n5) (0, 0, 0))))) (Int.toNat n5) (0, 0, 0))))) ∧ (-9223372036854775808 ≤ n4 + 1 + 1 + 1 ∧ n4 + 1 + 1 + (1 : Int) ≤ 9223372036854775807) ∧ (-9223372036854775808 ≤ n5 + 1 ∧ n5 + (1 : Int) ≤ 9223372036854775807) ∧ I2 (n4 + 1 + 1 + 1) (n5 + 1)
    (List.set (List.set (List.set l6 (Int.toNat n5) (n4, Prod.fst (Prod.snd (List.getD l6 (Int.toNat n5) (0, 0, 0))), Prod.snd (Prod.snd (List.getD l6 (Int.toNat n5) (0, 0, 0))))) (Int.toNat n5) (Prod.fst (List.getD (List.set l6 (Int.toNat n5)
    (n4, Prod.fst (Prod.snd (List.getD l6 (Int.toNat n5) (0, 0, 0))), Prod.snd (Prod.snd (List.getD l6 (Int.toNat n5) (0, 0, 0))))) (Int.toNat n5) (0, 0, 0)), n4 + 1, Prod.snd (Prod.snd (List.getD (List.set l6 (Int.toNat n5) (n4, Prod.fst
    (Prod.snd (List.getD l6 (Int.toNat n5) (0, 0, 0))), Prod.snd (Prod.snd (List.getD l6 (Int.toNat n5) (0, 0, 0))))) (Int.toNat n5) (0, 0, 0))))) (Int.toNat n5) (Prod.fst (List.getD (List.set (List.set l6 (Int.toNat n5) (n4, Prod.fst (Prod.snd
    (List.getD l6 (Int.toNat n5) (0, 0, 0))), Prod.snd (Prod.snd (List.getD l6 (Int.toNat n5) (0, 0, 0))))) (Int.toNat n5) (Prod.fst (List.getD (List.set l6 (Int.toNat n5) (n4, Prod.fst (Prod.snd (List.getD l6 (Int.toNat n5) (0, 0, 0))),
    Prod.snd (Prod.snd (List.getD l6 (Int.toNat n5) (0, 0, 0))))) (Int.toNat n5) (0, 0, 0)), n4 + 1, Prod.snd (Prod.snd (List.getD (List.set l6 (Int.toNat n5) (n4, Prod.fst (Prod.snd (List.getD l6 (Int.toNat n5) (0, 0, 0))), Prod.snd (Prod.snd
    (List.getD l6 (Int.toNat n5) (0, 0, 0))))) (Int.toNat n5) (0, 0, 0))))) (Int.toNat n5) (0, 0, 0)), Prod.fst (Prod.snd (List.getD (List.set (List.set l6 (Int.toNat n5) (n4, Prod.fst (Prod.snd (List.getD l6 (Int.toNat n5) (0, 0, 0))), Prod.snd
    (Prod.snd (List.getD l6 (Int.toNat n5) (0, 0, 0))))) (Int.toNat n5) (Prod.fst (List.getD (List.set l6 (Int.toNat n5) (n4, Prod.fst (Prod.snd (List.getD l6 (Int.toNat n5) (0, 0, 0))), Prod.snd (Prod.snd (List.getD l6 (Int.toNat n5) (0, 0,
    0))))) (Int.toNat n5) (0, 0, 0)), n4 + 1, Prod.snd (Prod.snd (List.getD (List.set l6 (Int.toNat n5) (n4, Prod.fst (Prod.snd (List.getD l6 (Int.toNat n5) (0, 0, 0))), Prod.snd (Prod.snd (List.getD l6 (Int.toNat n5) (0, 0, 0))))) (Int.toNat
    n5) (0, 0, 0))))) (Int.toNat n5) (0, 0, 0))), n4 + 1 + 1)) ∧ m3 (n4 + 1 + 1 + 1) (n5 + 1) (List.set (List.set (List.set l6 (Int.toNat n5) (n4, Prod.fst (Prod.snd (List.getD l6 (Int.toNat n5) (0, 0, 0))), Prod.snd (Prod.snd (List.getD l6
    (Int.toNat n5) (0, 0, 0))))) (Int.toNat n5) (Prod.fst (List.getD (List.set l6 (Int.toNat n5) (n4, Prod.fst (Prod.snd (List.getD l6 (Int.toNat n5) (0, 0, 0))), Prod.snd (Prod.snd (List.getD l6 (Int.toNat n5) (0, 0, 0))))) (Int.toNat n5) (0,
    0, 0)), n4 + 1, Prod.snd (Prod.snd (List.getD (List.set l6 (Int.toNat n5) (n4, Prod.fst (Prod.snd (List.getD l6 (Int.toNat n5) (0, 0, 0))), Prod.snd (Prod.snd (List.getD l6 (Int.toNat n5) (0, 0, 0))))) (Int.toNat n5) (0, 0, 0))))) (Int.toNat
    n5) (Prod.fst (List.getD (List.set (List.set l6 (Int.toNat n5) (n4, Prod.fst (Prod.snd (List.getD l6 (Int.toNat n5) (0, 0, 0))), Prod.snd (Prod.snd (List.getD l6 (Int.toNat n5) (0, 0, 0))))) (Int.toNat n5) (Prod.fst (List.getD (List.set l6
    (Int.toNat n5) (n4, Prod.fst (Prod.snd (List.getD l6 (Int.toNat n5) (0, 0, 0))), Prod.snd (Prod.snd (List.getD l6 (Int.toNat n5) (0, 0, 0))))) (Int.toNat n5) (0, 0, 0)), n4 + 1, Prod.snd (Prod.snd (List.getD (List.set l6 (Int.toNat n5) (n4,
    Prod.fst (Prod.snd (List.getD l6 (Int.toNat n5) (0, 0, 0))), Prod.snd (Prod.snd (List.getD l6 (Int.toNat n5) (0, 0, 0))))) (Int.toNat n5) (0, 0, 0))))) (Int.toNat n5) (0, 0, 0)), Prod.fst (Prod.snd (List.getD (List.set (List.set l6
    (Int.toNat n5) (n4, Prod.fst (Prod.snd (List.getD l6 (Int.toNat n5) (0, 0, 0))), Prod.snd (Prod.snd (List.getD l6 (Int.toNat n5) (0, 0, 0))))) (Int.toNat n5) (Prod.fst (List.getD (List.set l6 (Int.toNat n5) (n4, Prod.fst (Prod.snd (List.getD
    l6 (Int.toNat n5) (0, 0, 0))), Prod.snd (Prod.snd (List.getD l6 (Int.toNat n5) (0, 0, 0))))) (Int.toNat n5) (0, 0, 0)), n4 + 1, Prod.snd (Prod.snd (List.getD (List.set l6 (Int.toNat n5) (n4, Prod.fst (Prod.snd (List.getD l6 (Int.toNat n5)
    (0, 0, 0))), Prod.snd (Prod.snd (List.getD l6 (Int.toNat n5) (0, 0, 0))))) (Int.toNat n5) (0, 0, 0))))) (Int.toNat n5) (0, 0, 0))), n4 + 1 + 1)) < m3 n4 n5 l6) ∧ (¬n5 < (↑(List.length l6) : Int) → n4 = n1 + 3 * (↑(List.length l0) : Int) ∧ l6
    = marks3 n1 (List.length l0))
theorem v_l_markTokenS : V_l_markTokenS := by
  unfold V_l_markTokenS
  rintro l k ⟨hz, hk0, hk1⟩
  refine ⟨fun n i o => 0 ≤ i ∧ i ≤ l.length ∧ n = k + 3 * i ∧ o = marks3 k i.toNat ++ l.drop i.toNat, fun n i o => (l.length - i).toNat, ?_, ?_⟩ <;> dsimp only
  · simp [marks3]
  rintro n i o ⟨h0, h1, rfl, rfl⟩
  have ho : (marks3 k i.toNat ++ l.drop i.toNat).length = l.length := by simp [marks3_len]; omega
  rw [ho]
  refine ⟨fun hlt => ?_, fun hge => ?_⟩
  · have ht : ((marks3 k i.toNat).length : Int) = i := by rw [marks3_len]; omega
    have hm : marks3 k (i + 1).toNat = marks3 k i.toNat ++ [(k + 3 * i, k + 3 * i + 1, k + 3 * i + 2)] := by
      rw [show (i + 1).toNat = i.toNat + 1 by omega, marks3_snoc, show ((i.toNat : Nat) : Int) = i by omega]
    rw [drop_lt (0, 0, 0) h0 hlt]
    simp only [set_at ht, getD_at ht, hm, List.length_append, List.length_cons, marks3_len, List.append_assoc, List.cons_append, List.nil_append]
    rw [drop_lt (0, 0, 0) h0 hlt] at ho
    simp only [List.length_append, List.length_cons, marks3_len] at ho
    grind
  · rw [drop_ge hge, show i.toNat = l.length by omega]
    simp; omega
def V_l_heldTokenS : Prop :=
  ∀ (l0 : List (Int × Int × Int)) (n1 : Int), (↑(List.length l0) : Int) ≤ 1099511627776 ∧ 0 ≤ n1 ∧ n1 ≤ 1000000000000000 → ∃ (I2 : Int → Int → Prop), ∃ (m3 : Int → Int → Nat), I2 n1 0 ∧ ∀ (n4 n5 : Int), I2 n4 n5 → (n5 < (↑(List.length l0) :
    Int) → 0 ≤ n5 ∧ n5 < (↑(List.length l0) : Int) ∧ (Prod.fst (List.getD l0 (Int.toNat n5) (0, 0, 0)) ≠ n4 → -1 = if l0 = marks3 n1 (List.length l0) then n1 + 3 * (↑(List.length l0) : Int) else -1) ∧ (¬Prod.fst (List.getD l0 (Int.toNat n5) (0,
    0, 0)) ≠ n4 → (-9223372036854775808 ≤ n4 + 1 ∧ n4 + (1 : Int) ≤ 9223372036854775807) ∧ 0 ≤ n5 ∧ n5 < (↑(List.length l0) : Int) ∧ (Prod.fst (Prod.snd (List.getD l0 (Int.toNat n5) (0, 0, 0))) ≠ n4 + 1 → -1 = if l0 = marks3 n1 (List.length l0) then n1
    + 3 * (↑(List.length l0) : Int) else -1) ∧ (¬Prod.fst (Prod.snd (List.getD l0 (Int.toNat n5) (0, 0, 0))) ≠ n4 + 1 → (-9223372036854775808 ≤ n4 + 1 + 1 ∧ n4 + 1 + (1 : Int) ≤ 9223372036854775807) ∧ 0 ≤ n5 ∧ n5 < (↑(List.length l0) : Int) ∧ (Prod.snd
    (Prod.snd (List.getD l0 (Int.toNat n5) (0, 0, 0))) ≠ n4 + 1 + 1 → -1 = if l0 = marks3 n1 (List.length l0) then n1 + 3 * (↑(List.length l0) : Int) else -1) ∧ (¬Prod.snd (Prod.snd (List.getD l0 (Int.toNat n5) (0, 0, 0))) ≠ n4 + 1 + 1 →
    (-9223372036854775808 ≤ n4 + 1 + 1 + 1 ∧ n4 + 1 + 1 + (1 : Int) ≤ 9223372036854775807) ∧ (-9223372036854775808 ≤ n5 + 1 ∧ n5 + (1 : Int) ≤ 9223372036854775807) ∧ I2 (n4 + 1 + 1 + 1) (n5 + 1) ∧ m3 (n4 + 1 + 1 + 1) (n5 + 1) < m3 n4 n5)))) ∧ (¬n5 <
    (↑(List.length l0) : Int) → n4 = if l0 = marks3 n1 (List.length l0) then n1 + 3 * (↑(List.length l0) : Int) else -1)
theorem v_l_heldTokenS : V_l_heldTokenS := by
  unfold V_l_heldTokenS
  rintro l k ⟨hz, hk0, hk1⟩
  refine ⟨fun n i => 0 ≤ i ∧ i ≤ l.length ∧ n = k + 3 * i ∧ (l.drop i.toNat = marks3 n (l.length - i.toNat) ↔ l = marks3 k l.length), fun n i => (l.length - i).toNat, ?_, ?_⟩ <;> dsimp only
  · simp
  rintro n i ⟨h0, h1, rfl, h2⟩
  refine ⟨fun hlt => ?_, fun hge => ?_⟩
  · obtain ⟨j, hj⟩ : ∃ j, l.length - i.toNat = j + 1 := ⟨l.length - i.toNat - 1, by omega⟩
    have hj' : l.length - (i + 1).toNat = j := by omega
    rw [drop_lt (0, 0, 0) h0 hlt, hj, marks3, List.cons.injEq] at h2
    rw [hj']
    generalize List.getD l i.toNat (0, 0, 0) = x at *
    obtain ⟨x1, x2, x3⟩ := x
    simp only [Prod.mk.injEq] at *
    grind
  · rw [drop_ge hge, show l.length - i.toNat = 0 by omega] at h2
    rw [if_pos (h2.1 rfl)]; omega
def V_i_prefaceOk : Prop :=
  ∀ (l0 : List Int), (↑(List.length l0) : Int) ≤ 1099511627776 → ((↑(List.length l0) : Int) ≤ 16 → (↑(List.length l0) : Int) ≤ 1099511627776 ∧ (true = LV l0 → true = (decide (List.length l0 ≤ 16) && LV l0)) ∧ (false = LV l0 → false = (decide
    (List.length l0 ≤ 16) && LV l0))) ∧ (¬(↑(List.length l0) : Int) ≤ 16 → false = (decide (List.length l0 ≤ 16) && LV l0))
theorem v_i_prefaceOk : V_i_prefaceOk := by
  unfold V_i_prefaceOk
  intro p hz
  grind
def V_i_joined : Prop :=
  ∀ (l0 l1 : List Int), (↑(List.length l0) : Int) ≤ 10000000 ∧ (↑(List.length l1) : Int) ≤ 10000000 → (↑(List.length l0) : Int) ≤ 1099511627776 ∧ ∀ (l2 : List Int), l2 = l0 → (↑(List.length l2 + List.length l1) : Int) ≤ 1099511627776 ∧
    (↑(List.length l0) : Int) ≤ 1099511627776 ∧ (true = (decide (List.length l0 ≤ 16) && LV l0) → (↑(List.length (l2 ++ l1)) : Int) ≤ 1099511627776 ∧ (true = LV (l2 ++ l1) → l2 ++ l1 = l0 ++ l1 ∧ true = prefOk l0 l1) ∧ (false = LV (l2 ++ l1) →
    l2 ++ l1 = l0 ++ l1 ∧ false = prefOk l0 l1)) ∧ (false = (decide (List.length l0 ≤ 16) && LV l0) → l2 ++ l1 = l0 ++ l1 ∧ false = prefOk l0 l1)
theorem v_i_joined : V_i_joined := by
  unfold V_i_joined
  rintro p l ⟨h0, h1⟩
  have hpo : prefOk p l = (decide (p.length ≤ 16) && LV p && LV (p ++ l)) := rfl
  have hl : (p ++ l).length = p.length + l.length := List.length_append
  repeat' (first | apply And.intro | (rintro _ _ _ ⟨rfl, rfl, _, _⟩) | (rintro _ _ _ ⟨rfl, _, _, _⟩) | (rintro _ _ _ _ ⟨rfl, _, _, _⟩) | (rintro _ _ ⟨rfl, _⟩) | intro _)
  all_goals try (first | omega | with_reducible rfl | with_reducible assumption | (simp only [List.length_append, List.length_take, List.length_drop, List.length_set, List.length_cons, List.length_nil, List.length_replicate, Int.toNat_natCast] <;> omega) | (simp <;> omega))
  all_goals grind
def V_i_PrefaceTokens : Prop :=
  ∀ (l0 l1 : List Int), (↑(List.length l0) : Int) ≤ 10000000 ∧ (↑(List.length l1) : Int) ≤ 10000000 → ((↑(List.length l0) : Int) ≤ 10000000 ∧ (↑(List.length l1) : Int) ≤ 10000000) ∧ ∀ (l2 : List Int), (l2 = l0 ++ l1 ∧ true = prefOk l0 l1 → (LV
    l2 = true ∧ 0 ≤ (↑(List.length l0) : Int) ∧ (↑(List.length l0) : Int) ≤ (↑(List.length l2) : Int)) ∧ ∀ (l3 : List (Int × Int × Int)), l3 = greedy l2 (↑(List.length l0) : Int) ∧ (↑(List.length l3) : Int) ≤ 40 → l3 = prefD l0 l1 ∧
    (↑(List.length l3) : Int) ≤ 40) ∧ (l2 = l0 ++ l1 ∧ false = prefOk l0 l1 → [] = prefD l0 l1 ∧ (↑0 : Int) ≤ 40)
theorem v_i_PrefaceTokens : V_i_PrefaceTokens := by
  unfold V_i_PrefaceTokens
  rintro p l ⟨h0, h1⟩
  have hd := prefD_len p l
  have hI := @prefOk_iff p l
  have hl : (p ++ l).length = p.length + l.length := List.length_append
  have h4 : prefOk p l = true → prefD p l = greedy (p ++ l) p.length := fun h => if_pos h
  have h5 : ¬ prefOk p l = true → prefD p l = [] := fun h => if_neg h
  repeat' (first | apply And.intro | (rintro _ _ _ ⟨rfl, rfl, _, _⟩) | (rintro _ _ _ ⟨rfl, _, _, _⟩) | (rintro _ _ _ _ ⟨rfl, _, _, _⟩) | (rintro _ _ ⟨rfl, _⟩) | intro _)
  all_goals try (first | omega | with_reducible rfl | with_reducible assumption | (simp only [List.length_append, List.length_take, List.length_drop, List.length_set, List.length_cons, List.length_nil, List.length_replicate, Int.toNat_natCast] <;> omega) | (simp <;> omega))
  all_goals grind
def V_i_PrefaceGain : Prop :=
  ∀ (l0 l1 : List Int), (↑(List.length l0) : Int) ≤ 10000000 ∧ (↑(List.length l1) : Int) ≤ 10000000 → ((↑(List.length l0) : Int) ≤ 10000000 ∧ (↑(List.length l1) : Int) ≤ 10000000) ∧ ∀ (l2 : List Int), (l2 = l0 ++ l1 ∧ true = prefOk l0 l1 →
    (↑(List.length l1) : Int) ≤ 1099511627776 ∧ ∀ (l3 : List (Int × Int × Int)), l3 = greedyD l1 ∧ (↑(List.length l3) : Int) ≤ 40 → (↑(List.length l3) : Int) ≤ 1099511627776 ∧ ∀ (n4 : Int), n4 = costOf l3 → ((↑(List.length l0) : Int) ≤ 10000000
    ∧ (↑(List.length l1) : Int) ≤ 10000000) ∧ ∀ (l5 : List (Int × Int × Int)), l5 = prefD l0 l1 ∧ (↑(List.length l5) : Int) ≤ 40 → (↑(List.length l5) : Int) ≤ 1099511627776 ∧ ∀ (n6 : Int), n6 = costOf l5 → (-9223372036854775808 ≤ n4 - n6 ∧ n4 -
    n6 ≤ 9223372036854775807) ∧ n4 - n6 = gainD l0 l1) ∧ (l2 = l0 ++ l1 ∧ false = prefOk l0 l1 → 0 = gainD l0 l1)
theorem v_i_PrefaceGain : V_i_PrefaceGain := by
  unfold V_i_PrefaceGain
  rintro p l ⟨h0, h1⟩
  have hd := prefD_len p l
  have h4 : prefOk p l = true → gainD p l = costOf (greedyD l) - costOf (prefD p l) := fun h => if_pos h
  have h5 : ¬ prefOk p l = true → gainD p l = 0 := fun h => if_neg h
  have hc := cost_bd (greedyD l)
  have hc' := cost_bd (prefD p l)
  have hg := greedyD_len l
  repeat' (first | apply And.intro | (rintro _ _ _ ⟨rfl, rfl, _, _⟩) | (rintro _ _ _ ⟨rfl, _, _, _⟩) | (rintro _ _ _ _ ⟨rfl, _, _, _⟩) | (rintro _ _ ⟨rfl, _⟩) | intro _)
  all_goals try (first | omega | with_reducible rfl | with_reducible assumption | (simp only [List.length_append, List.length_take, List.length_drop, List.length_set, List.length_cons, List.length_nil, List.length_replicate, Int.toNat_natCast] <;> omega) | (simp <;> omega))
  all_goals grind
def V_i_PrefaceExpand : Prop :=
  ∀ (l0 : List Int) (l1 : List (Int × Int × Int)), (↑(List.length l0) : Int) ≤ 10000000 ∧ (↑(List.length l1) : Int) ≤ 10000000 → (↑(List.length l0) : Int) ≤ 1099511627776 ∧ (true = (decide (List.length l0 ≤ 16) && LV l0) → ∃ (I2 : List (Int ×
    Int × Int) → Int → Prop), ∃ (m3 : List (Int × Int × Int) → Int → Nat), I2 [] 0 ∧ ∀ (l4 : List (Int × Int × Int)) (n5 : Int), I2 l4 n5 → (n5 < (↑(List.length l0) : Int) → 0 ≤ n5 ∧ n5 < (↑(List.length l0) : Int) ∧ (↑(List.length l4 +
    List.length [(List.getD l0 (Int.toNat n5) 0, 0, 0)]) : Int) ≤ 1099511627776 ∧ (-9223372036854775808 ≤ n5 + 1 ∧ n5 + (1 : Int) ≤ 9223372036854775807) ∧ I2 (l4 ++ [(List.getD l0 (Int.toNat n5) 0, 0, 0)]) (n5 + 1) ∧ m3 (l4 ++ [(List.getD l0 (Int.toNat
    n5) 0, 0, 0)]) (n5 + 1) < m3 l4 n5) ∧ (¬n5 < (↑(List.length l0) : Int) → (↑(List.length l4 + List.length l1) : Int) ≤ 1099511627776 ∧ (↑(List.length (l4 ++ l1)) : Int) ≤ 1099511627776 ∧ ∀ (l6 : List Int), (true = Option.isSome (expand (l4 ++
    l1)) ∧ l6 = Option.getD (expand (l4 ++ l1)) [] → 0 ≤ (↑(List.length l0) : Int) ∧ (↑(List.length l0) : Int) ≤ (↑(List.length l6) : Int) ∧ (↑(List.length l6) : Int) ≤ (↑(List.length l6) : Int) ∧ (↑(List.length (List.take (Int.toNat
    ((↑(List.length l6) : Int) - (↑(List.length l0) : Int))) (List.drop (Int.toNat (↑(List.length l0) : Int)) l6))) : Int) ≤ 1099511627776 ∧ ∀ (l7 : List Int), l7 = List.take (Int.toNat ((↑(List.length l6) : Int) - (↑(List.length l0) : Int)))
    (List.drop (Int.toNat (↑(List.length l0) : Int)) l6) → true = Option.isSome (pexpD l0 l1) ∧ l7 = Option.getD (pexpD l0 l1) []) ∧ (false = Option.isSome (expand (l4 ++ l1)) ∧ l6 = Option.getD (expand (l4 ++ l1)) [] → false = Option.isSome
    (pexpD l0 l1) ∧ [] = Option.getD (pexpD l0 l1) []))) ∧ (false = (decide (List.length l0 ≤ 16) && LV l0) → false = Option.isSome (pexpD l0 l1) ∧ [] = Option.getD (pexpD l0 l1) [])
theorem v_i_PrefaceExpand : V_i_PrefaceExpand := by
  unfold V_i_PrefaceExpand
  rintro p ts ⟨h0, h1⟩
  refine ⟨by omega, fun hp => ?_, fun hp => ?_⟩
  · have hp' := pref_cond.1 hp.symm
    have hE := pexpD_yes (ts := ts) hp.symm
    have hL := fun r => pexp_len (ts := ts) (r := r) hp'
    refine ⟨fun o i => 0 ≤ i ∧ i ≤ p.length ∧ o = (p.take i.toNat).map (fun s => (s, 0, 0)), fun o i => (p.length - i).toNat, ?_, ?_⟩ <;> dsimp only
    · simp
    rintro o i ⟨i0, i1, rfl⟩
    have hm : ((p.take i.toNat).map (fun s => (s, (0 : Int), (0 : Int)))).length = i.toNat := by simp; omega
    refine ⟨fun hlt => ?_, fun hge => ?_⟩
    · rw [hm]
      refine ⟨i0, hlt, by simp; omega, by omega, ⟨by omega, by omega, ?_⟩, by omega⟩
      rw [take_lt 0 i0 hlt]; simp
    · rw [take_ge hge]
      rw [take_ge hge] at hm
      have hm2 : (p.map (fun s => (s, (0 : Int), (0 : Int))) ++ ts).length = p.length + ts.length := by simp
      rw [hm2]
      refine ⟨by omega, by omega, ?_⟩
      cases he : expand (p.map (fun s => (s, 0, 0)) ++ ts) with
      | none =>
        rw [he] at hE
        simp [hE]
      | some r =>
        rw [he] at hE
        have := hL r he
        have h40 := expand_len (xs := p.map (fun s => (s, 0, 0)) ++ ts) (a := []) he (by simp)
        have e : List.take (((r.length : Int) - p.length).toNat) (List.drop ((p.length : Int)).toNat r) = r.drop p.length := by
          rw [show ((p.length : Int)).toNat = p.length by omega]
          exact List.take_of_length_le (by simp)
        simp [hE]
        have e2 : List.take (r.length - p.length) (List.drop p.length r) = r.drop p.length := List.take_of_length_le (by simp)
        exact ⟨by omega, by omega, e2⟩
  · rw [pexpD_no (by rw [← hp]; simp)]; simp
def V_s_l33Ok : Prop :=
  ∀ (l0 l1 : List Int), (↑(List.length l0) : Int) ≤ 10000000 ∧ (↑(List.length l1) : Int) ≤ 10000000 → (↑(List.length l0) : Int) ≤ 1099511627776 ∧ (true = LV l0 → ((↑(List.length l0) : Int) ≤ 16 → (↑(0 + List.length l0) : Int) ≤ 1099511627776 ∧
    (↑(List.length l0 + List.length l1) : Int) ≤ 1099511627776 ∧ (↑(List.length (l0 ++ l1)) : Int) ≤ 1099511627776 ∧ (true = LV (l0 ++ l1) → true = prefOk l0 l1) ∧ (false = LV (l0 ++ l1) → false = prefOk l0 l1)) ∧ (¬(↑(List.length l0) : Int) ≤
    16 → false = prefOk l0 l1)) ∧ (false = LV l0 → false = prefOk l0 l1)
theorem v_s_l33Ok : V_s_l33Ok := by
  unfold V_s_l33Ok
  rintro p l ⟨h0, h1⟩
  have hpo : prefOk p l = (decide (p.length ≤ 16) && LV p && LV (p ++ l)) := rfl
  have hl : (p ++ l).length = p.length + l.length := List.length_append
  repeat' (first | apply And.intro | (rintro _ _ _ ⟨rfl, rfl, _, _⟩) | (rintro _ _ _ ⟨rfl, _, _, _⟩) | (rintro _ _ _ _ ⟨rfl, _, _, _⟩) | (rintro _ _ ⟨rfl, _⟩) | intro _)
  all_goals try (first | omega | with_reducible rfl | with_reducible assumption | (simp only [List.length_append, List.length_take, List.length_drop, List.length_set, List.length_cons, List.length_nil, List.length_replicate, Int.toNat_natCast] <;> omega) | (simp <;> omega))
  all_goals grind
def V_s_PrefaceTokens : Prop :=
  ∀ (l0 l1 : List Int), (↑(List.length l0) : Int) ≤ 10000000 ∧ (↑(List.length l1) : Int) ≤ 10000000 → ((↑(List.length l0) : Int) ≤ 10000000 ∧ (↑(List.length l1) : Int) ≤ 10000000) ∧ (true = prefOk l0 l1 → (↑(0 + List.length l0) : Int) ≤
    1099511627776 ∧ (↑(List.length l0 + List.length l1) : Int) ≤ 1099511627776 ∧ ∃ (I2 : List (Int × Int × Int) → Int → Prop), ∃ (m3 : List (Int × Int × Int) → Int → Nat), I2 [] (↑(List.length l0) : Int) ∧ ∀ (l4 : List (Int × Int × Int)) (n5 :
    Int), I2 l4 n5 → (n5 < (↑(List.length (l0 ++ l1)) : Int) → ((↑(List.length (l0 ++ l1)) : Int) ≤ 1099511627776 ∧ 0 ≤ n5 ∧ n5 < (↑(List.length (l0 ++ l1)) : Int)) ∧ ∀ (n6 n7 n8 : Int), ((n6, n7, n8) = matchAt (l0 ++ l1) n5 ∧ true = decide (0 <
    n8) → (↑(List.length l4 + List.length [(n6, n7, n8)]) : Int) ≤ 1099511627776 ∧ (-9223372036854775808 ≤ n5 + n8 ∧ n5 + n8 ≤ 9223372036854775807) ∧ I2 (l4 ++ [(n6, n7, n8)]) (n5 + n8) ∧ m3 (l4 ++ [(n6, n7, n8)]) (n5 + n8) < m3 l4 n5) ∧ ((n6,
    n7, n8) = matchAt (l0 ++ l1) n5 ∧ false = decide (0 < n8) → 0 ≤ n5 ∧ n5 < (↑(List.length (l0 ++ l1)) : Int) ∧ Int.toNat n5 < List.length (l0 ++ l1) ∧ (↑(List.length l4 + List.length [(List.getD (l0 ++ l1) (Int.toNat n5) 0, 0, 0)]) : Int) ≤
    1099511627776 ∧ (-9223372036854775808 ≤ n5 + 1 ∧ n5 + (1 : Int) ≤ 9223372036854775807) ∧ I2 (l4 ++ [(List.getD (l0 ++ l1) (Int.toNat n5) 0, 0, 0)]) (n5 + 1) ∧ m3 (l4 ++ [(List.getD (l0 ++ l1) (Int.toNat n5) 0, 0, 0)]) (n5 + 1) < m3 l4 n5)) ∧ (¬n5 <
    (↑(List.length (l0 ++ l1)) : Int) → l4 = prefD l0 l1 ∧ (↑(List.length l4) : Int) ≤ 40)) ∧ (false = prefOk l0 l1 → [] = prefD l0 l1 ∧ (↑0 : Int) ≤ 40)
theorem v_s_PrefaceTokens : V_s_PrefaceTokens := by
  unfold V_s_PrefaceTokens
  rintro p l ⟨h0, h1⟩
  have hlen : ((p ++ l).length : Int) = p.length + l.length := by simp
  have hd := (prefD_len p l).2
  refine ⟨⟨by omega, by omega⟩, fun hv => ⟨by omega, by omega, ?_⟩, fun hv => ?_⟩
  · obtain ⟨v1, v2, v3⟩ := prefOk_iff.1 hv.symm
    have v4 := LV_len v3
    have hD : prefD p l = greedy (p ++ l) p.length := if_pos hv.symm
    rw [hD] at hd
    rw [hD]
    clear hD
    generalize p ++ l = L at *
    refine ⟨fun out a => p.length ≤ a ∧ a ≤ L.length ∧ (out.length : Int) ≤ a ∧ out ++ greedy L a = greedy L p.length, fun out a => (L.length - a).toNat, ?_, ?_⟩ <;> dsimp only
    · simp; omega
    rintro out a ⟨a0, a1, a2, hI⟩
    refine ⟨fun hlt => ⟨⟨by omega, by omega, hlt⟩, ?_⟩, fun hge => ?_⟩
    · rw [greedy_step (by omega) hlt] at hI
      obtain ⟨t1, t2, t3, t4⟩ := tokAt_ok L (by omega) hlt
      intro s b m
      refine ⟨?_, ?_⟩
      · rintro ⟨hm, hp⟩
        simp only [true_eq_decide_iff] at hp
        have ht : tokAt L a = (s, b, m) := by unfold tokAt; rw [← hm]; exact if_pos hp
        rw [ht] at hI t2 t1
        dsimp only at *
        rw [show a + max m 1 = a + m by omega] at hI
        exact ⟨by simp; omega, by omega, ⟨by omega, by omega, by simp; omega, by simpa using hI⟩, by omega⟩
      · rintro ⟨hm, hp⟩
        simp only [false_eq_decide_iff] at hp
        have ht : tokAt L a = (L.getD a.toNat 0, 0, 0) := by unfold tokAt; rw [← hm]; exact if_neg hp
        rw [ht] at hI t2
        dsimp only at *
        rw [show a + max 0 1 = a + 1 by omega] at hI
        exact ⟨by omega, hlt, by omega, by simp; omega, by omega, ⟨by omega, by omega, by simp; omega, by simpa using hI⟩, by omega⟩
    · rw [greedy_end hge] at hI
      simp only [List.append_nil] at hI
      rw [hI]; exact ⟨rfl, hd⟩
  · have : prefD p l = [] := if_neg (by rw [← hv]; simp)
    rw [this]; simp
def V_s_PrefaceGain : Prop :=
  ∀ (l0 l1 : List Int), (↑(List.length l0) : Int) ≤ 10000000 ∧ (↑(List.length l1) : Int) ≤ 10000000 → ((↑(List.length l0) : Int) ≤ 10000000 ∧ (↑(List.length l1) : Int) ≤ 10000000) ∧ (true = prefOk l0 l1 → (↑(List.length l1) : Int) ≤
    1099511627776 ∧ ∀ (l2 : List (Int × Int × Int)), l2 = greedyD l1 ∧ (↑(List.length l2) : Int) ≤ 40 → (↑(List.length l2) : Int) ≤ 1099511627776 ∧ ∀ (n3 : Int), n3 = costOf' l2 → ((↑(List.length l0) : Int) ≤ 10000000 ∧ (↑(List.length l1) : Int)
    ≤ 10000000) ∧ ∀ (l4 : List (Int × Int × Int)), l4 = prefD l0 l1 ∧ (↑(List.length l4) : Int) ≤ 40 → (↑(List.length l4) : Int) ≤ 1099511627776 ∧ ∀ (n5 : Int), n5 = costOf' l4 → (-9223372036854775808 ≤ n3 - n5 ∧ n3 - n5 ≤ 9223372036854775807) ∧
    n3 - n5 = gainD l0 l1) ∧ (false = prefOk l0 l1 → 0 = gainD l0 l1)
theorem v_s_PrefaceGain : V_s_PrefaceGain := by
  unfold V_s_PrefaceGain
  rintro p l ⟨h0, h1⟩
  have hd := prefD_len p l
  have h4 : prefOk p l = true → gainD p l = costOf (greedyD l) - costOf (prefD p l) := fun h => if_pos h
  have h5 : ¬ prefOk p l = true → gainD p l = 0 := fun h => if_neg h
  have e1 := cost_eq (greedyD_tidy l)
  have e2 := cost_eq (prefD_tidy p l)
  have hc := cost_bd (greedyD l)
  have hc' := cost_bd (prefD p l)
  have hg := greedyD_len l
  repeat' (first | apply And.intro | (rintro _ _ _ ⟨rfl, rfl, _, _⟩) | (rintro _ _ _ ⟨rfl, _, _, _⟩) | (rintro _ _ _ _ ⟨rfl, _, _, _⟩) | (rintro _ _ ⟨rfl, _⟩) | intro _)
  all_goals try (first | omega | with_reducible rfl | with_reducible assumption | (simp only [List.length_append, List.length_take, List.length_drop, List.length_set, List.length_cons, List.length_nil, List.length_replicate, Int.toNat_natCast] <;> omega) | (simp <;> omega))
  all_goals grind
def V_s_PrefaceExpand : Prop :=
  ∀ (l0 : List Int) (l1 : List (Int × Int × Int)), (↑(List.length l0) : Int) ≤ 10000000 ∧ (↑(List.length l1) : Int) ≤ 10000000 → ((↑(List.length l0) : Int) ≤ 10000000 ∧ (↑0 : Int) ≤ 10000000) ∧ (true = prefOk l0 [] → ∃ (I2 : List (Int × Int ×
    Int) → Int → Prop), ∃ (m3 : List (Int × Int × Int) → Int → Nat), I2 [] 0 ∧ ∀ (l4 : List (Int × Int × Int)) (n5 : Int), I2 l4 n5 → (n5 < (↑(List.length l0) : Int) → 0 ≤ n5 ∧ n5 < (↑(List.length l0) : Int) ∧ (↑(List.length l4 + List.length
    [(List.getD l0 (Int.toNat n5) 0, 0, 0)]) : Int) ≤ 1099511627776 ∧ (-9223372036854775808 ≤ n5 + 1 ∧ n5 + (1 : Int) ≤ 9223372036854775807) ∧ I2 (l4 ++ [(List.getD l0 (Int.toNat n5) 0, 0, 0)]) (n5 + 1) ∧ m3 (l4 ++ [(List.getD l0 (Int.toNat n5) 0, 0,
    0)]) (n5 + 1) < m3 l4 n5) ∧ (¬n5 < (↑(List.length l0) : Int) → (↑(List.length l4 + List.length l1) : Int) ≤ 1099511627776 ∧ (↑(List.length (l4 ++ l1)) : Int) ≤ 1099511627776 ∧ ∀ (l6 : List Int), (true = Option.isSome (expand (l4 ++ l1)) ∧ l6
    = Option.getD (expand (l4 ++ l1)) [] → 0 ≤ (↑(List.length l0) : Int) ∧ (↑(List.length l0) : Int) ≤ (↑(List.length l6) : Int) ∧ (↑(List.length l6) : Int) ≤ (↑(List.length l6) : Int) ∧ (↑(0 + List.length (List.take (Int.toNat ((↑(List.length
    l6) : Int) - (↑(List.length l0) : Int))) (List.drop (Int.toNat (↑(List.length l0) : Int)) l6))) : Int) ≤ 1099511627776 ∧ true = Option.isSome (pexpD l0 l1) ∧ List.take (Int.toNat ((↑(List.length l6) : Int) - (↑(List.length l0) : Int)))
    (List.drop (Int.toNat (↑(List.length l0) : Int)) l6) = Option.getD (pexpD l0 l1) []) ∧ (false = Option.isSome (expand (l4 ++ l1)) ∧ l6 = Option.getD (expand (l4 ++ l1)) [] → false = Option.isSome (pexpD l0 l1) ∧ [] = Option.getD (pexpD l0
    l1) []))) ∧ (false = prefOk l0 [] → false = Option.isSome (pexpD l0 l1) ∧ [] = Option.getD (pexpD l0 l1) [])
theorem v_s_PrefaceExpand : V_s_PrefaceExpand := by
  unfold V_s_PrefaceExpand
  rintro p ts ⟨h0, h1⟩
  refine ⟨⟨by omega, by omega⟩, fun hp => ?_, fun hp => ?_⟩
  · rw [prefOk_nil] at hp
    have hp' := pref_cond.1 hp.symm
    have hE := pexpD_yes (ts := ts) hp.symm
    have hL := fun r => pexp_len (ts := ts) (r := r) hp'
    refine ⟨fun o i => 0 ≤ i ∧ i ≤ p.length ∧ o = (p.take i.toNat).map (fun s => (s, 0, 0)), fun o i => (p.length - i).toNat, ?_, ?_⟩ <;> dsimp only
    · simp
    rintro o i ⟨i0, i1, rfl⟩
    have hm : ((p.take i.toNat).map (fun s => (s, (0 : Int), (0 : Int)))).length = i.toNat := by simp; omega
    refine ⟨fun hlt => ?_, fun hge => ?_⟩
    · rw [hm]
      refine ⟨i0, hlt, by simp; omega, by omega, ⟨by omega, by omega, ?_⟩, by omega⟩
      rw [take_lt 0 i0 hlt]; simp
    · rw [take_ge hge]
      rw [take_ge hge] at hm
      have hm2 : (p.map (fun s => (s, (0 : Int), (0 : Int))) ++ ts).length = p.length + ts.length := by simp
      rw [hm2]
      refine ⟨by omega, by omega, ?_⟩
      cases he : expand (p.map (fun s => (s, 0, 0)) ++ ts) with
      | none =>
        rw [he] at hE
        simp [hE]
      | some r =>
        rw [he] at hE
        have := hL r he
        have h40 := expand_len (xs := p.map (fun s => (s, 0, 0)) ++ ts) (a := []) he (by simp)
        have e : List.take (((r.length : Int) - p.length).toNat) (List.drop ((p.length : Int)).toNat r) = r.drop p.length := by
          rw [show ((p.length : Int)).toNat = p.length by omega]
          exact List.take_of_length_le (by simp)
        simp [hE]
        have e2 : List.take (r.length - p.length) (List.drop p.length r) = r.drop p.length := List.take_of_length_le (by simp)
        exact ⟨by omega, by omega, e2⟩
  · rw [prefOk_nil] at hp
    rw [pexpD_no (by rw [← hp]; simp)]; simp
def V_s_l92Preface : Prop :=
  ∀ (l0 : List UInt8) (n1 : Int), (↑(List.length l0) : Int) ≤ 1099511627776 ∧ 0 ≤ n1 ∧ n1 ≤ 800000000 → ((↑(List.length l0) : Int) ≤ 1099511627776 ∧ 0 ≤ n1 ∧ n1 ≤ 900000000) ∧ ∀ (l2 : List UInt8) (n3 : Int) (l4 : List Int), l0 = l2 ∧ n1 ≤ n3 ∧
    n3 ≤ n1 + 10000 ∧ (↑(List.length l4) : Int) ≤ 400 → (12 < (↑(List.length l4) : Int) → ((↑(List.length l2) : Int) ≤ 1099511627776 ∧ 0 ≤ n3 ∧ n3 ≤ 1000000000) ∧ ∀ (l5 : List UInt8) (n6 n7 : Int), l2 = l5 ∧ n6 = n3 + 1 ∧ 0 ≤ n7 ∧ ((1 : Int) ≤ 10 → n7 <
    10) → (0 < n7 → (0 : Int) ≤ 0 ∧ (0 : Int) ≤ 12 ∧ 12 ≤ (↑(List.length l4) : Int) ∧ ((↑(List.length l5) : Int) ≤ 1099511627776 ∧ 0 ≤ n6 ∧ n6 ≤ 900000000) ∧ ∀ (l8 : List UInt8) (n9 : Int) (l10 : List Int), l5 = l8 ∧ n6 ≤ n9 ∧ n9 ≤ n6 + 10000 ∧ (↑(List.length
    l10) : Int) ≤ 400 → (20 < (↑(List.length l10) : Int) → (0 : Int) ≤ 0 ∧ (0 : Int) ≤ 20 ∧ 20 ≤ (↑(List.length l10) : Int) ∧ (1 < (↑(Int.toNat (12 - 0)) : Int) → ((↑(List.length l8) : Int) ≤ 1099511627776 ∧ 0 ≤ n9 ∧ n9 ≤ 1000000000) ∧ ∀ (l11 : List UInt8) (n12
    n13 : Int), l8 = l11 ∧ n12 = n9 + 1 ∧ 0 ≤ n13 ∧ ((1 : Int) ≤ 3 → n13 < 3) → (0 < n13 → (-9223372036854775808 ≤ (↑(Int.toNat (12 - 0)) : Int) - 1 ∧ (↑(Int.toNat (12 - 0)) : Int) - (1 : Int) ≤ 9223372036854775807) ∧ ((↑(List.length l11) : Int) ≤ 1099511627776
    ∧ 0 ≤ n12 ∧ n12 ≤ 1000000000) ∧ ∀ (l14 : List UInt8) (n15 n16 : Int), l11 = l14 ∧ n15 = n12 + 1 ∧ 0 ≤ n16 ∧ (1 ≤ (↑(Int.toNat (12 - 0)) : Int) - 1 → n16 < (↑(Int.toNat (12 - 0)) : Int) - 1) → 0 ≤ n16 ∧ n16 ≤ (↑(Int.toNat (12 - 0)) : Int) ∧
    (↑(Int.toNat (12 - 0)) : Int) ≤ (↑(Int.toNat (12 - 0)) : Int) ∧ (↑(0 + List.length (List.take (Int.toNat ((↑(Int.toNat (12 - 0)) : Int) - n16)) (List.drop (Int.toNat 0 + Int.toNat n16) l4))) : Int) ≤ 1099511627776 ∧ (0 : Int) ≤ 0 ∧ 0 ≤ min
    (↑(Int.toNat (20 - 0)) : Int) 14 ∧ min (↑(Int.toNat (20 - 0)) : Int) 14 ≤ (↑(Int.toNat (20 - 0)) : Int) ∧ (↑(List.length (List.take (Int.toNat ((↑(Int.toNat (12 - 0)) : Int) - n16)) (List.drop (Int.toNat 0 + Int.toNat n16) l4)) + List.length
    (List.take (Int.toNat (min (↑(Int.toNat (20 - 0)) : Int) 14 - 0)) (List.drop (Int.toNat 0 + Int.toNat 0) l10))) : Int) ≤ 1099511627776 ∧ l0 = l14 ∧ n1 ≤ n15 ∧ n15 ≤ n1 + 30000 ∧ (↑(List.length (List.take (Int.toNat (12 - 0)) l4)) : Int) ≤
    400 ∧ (↑(List.length (List.take (Int.toNat ((↑(Int.toNat (12 - 0)) : Int) - n16)) (List.drop (Int.toNat 0 + Int.toNat n16) l4) ++ List.take (Int.toNat (min (↑(Int.toNat (20 - 0)) : Int) 14 - 0)) (List.drop (Int.toNat 0 + Int.toNat 0) l10)))
    : Int) ≤ 800) ∧ (¬0 < n13 → l0 = l11 ∧ n1 ≤ n12 ∧ n12 ≤ n1 + 30000 ∧ (↑(List.length (List.take (Int.toNat (12 - 0)) l4)) : Int) ≤ 400 ∧ (↑(List.length (List.take (Int.toNat (20 - 0)) l10)) : Int) ≤ 800)) ∧ (¬1 < (↑(Int.toNat (12 - 0)) : Int)
    → l0 = l8 ∧ n1 ≤ n9 ∧ n9 ≤ n1 + 30000 ∧ (↑(List.length (List.take (Int.toNat (12 - 0)) l4)) : Int) ≤ 400 ∧ (↑(List.length (List.take (Int.toNat (20 - 0)) l10)) : Int) ≤ 800)) ∧ (¬20 < (↑(List.length l10) : Int) → (1 < (↑(Int.toNat (12 - 0))
    : Int) → ((↑(List.length l8) : Int) ≤ 1099511627776 ∧ 0 ≤ n9 ∧ n9 ≤ 1000000000) ∧ ∀ (l17 : List UInt8) (n18 n19 : Int), l8 = l17 ∧ n18 = n9 + 1 ∧ 0 ≤ n19 ∧ ((1 : Int) ≤ 3 → n19 < 3) → (0 < n19 → (-9223372036854775808 ≤ (↑(Int.toNat (12 - 0)) : Int)
    - 1 ∧ (↑(Int.toNat (12 - 0)) : Int) - (1 : Int) ≤ 9223372036854775807) ∧ ((↑(List.length l17) : Int) ≤ 1099511627776 ∧ 0 ≤ n18 ∧ n18 ≤ 1000000000) ∧ ∀ (l20 : List UInt8) (n21 n22 : Int), l17 = l20 ∧ n21 = n18 + 1 ∧ 0 ≤ n22 ∧ (1 ≤ (↑(Int.toNat (12 -
    0)) : Int) - 1 → n22 < (↑(Int.toNat (12 - 0)) : Int) - 1) → 0 ≤ n22 ∧ n22 ≤ (↑(Int.toNat (12 - 0)) : Int) ∧ (↑(Int.toNat (12 - 0)) : Int) ≤ (↑(Int.toNat (12 - 0)) : Int) ∧ (↑(0 + List.length (List.take (Int.toNat ((↑(Int.toNat (12 - 0)) :
    Int) - n22)) (List.drop (Int.toNat 0 + Int.toNat n22) l4))) : Int) ≤ 1099511627776 ∧ (0 : Int) ≤ 0 ∧ 0 ≤ min (↑(List.length l10) : Int) 14 ∧ min (↑(List.length l10) : Int) 14 ≤ (↑(List.length l10) : Int) ∧ (↑(List.length (List.take (Int.toNat
    ((↑(Int.toNat (12 - 0)) : Int) - n22)) (List.drop (Int.toNat 0 + Int.toNat n22) l4)) + List.length (List.take (Int.toNat (min (↑(List.length l10) : Int) 14 - 0)) (List.drop (Int.toNat 0) l10))) : Int) ≤ 1099511627776 ∧ l0 = l20 ∧ n1 ≤ n21 ∧
    n21 ≤ n1 + 30000 ∧ (↑(List.length (List.take (Int.toNat (12 - 0)) l4)) : Int) ≤ 400 ∧ (↑(List.length (List.take (Int.toNat ((↑(Int.toNat (12 - 0)) : Int) - n22)) (List.drop (Int.toNat 0 + Int.toNat n22) l4) ++ List.take (Int.toNat (min
    (↑(List.length l10) : Int) 14 - 0)) (List.drop (Int.toNat 0) l10))) : Int) ≤ 800) ∧ (¬0 < n19 → l0 = l17 ∧ n1 ≤ n18 ∧ n18 ≤ n1 + 30000 ∧ (↑(List.length (List.take (Int.toNat (12 - 0)) l4)) : Int) ≤ 400 ∧ (↑(List.length l10) : Int) ≤ 800)) ∧
    (¬1 < (↑(Int.toNat (12 - 0)) : Int) → l0 = l8 ∧ n1 ≤ n9 ∧ n9 ≤ n1 + 30000 ∧ (↑(List.length (List.take (Int.toNat (12 - 0)) l4)) : Int) ≤ 400 ∧ (↑(List.length l10) : Int) ≤ 800))) ∧ (¬0 < n7 → ((↑(List.length l5) : Int) ≤ 1099511627776 ∧ 0 ≤
    n6 ∧ n6 ≤ 900000000) ∧ ∀ (l23 : List UInt8) (n24 : Int) (l25 : List Int), l5 = l23 ∧ n6 ≤ n24 ∧ n24 ≤ n6 + 10000 ∧ (↑(List.length l25) : Int) ≤ 400 → (20 < (↑(List.length l25) : Int) → (0 : Int) ≤ 0 ∧ (0 : Int) ≤ 20 ∧ 20 ≤ (↑(List.length l25) : Int) ∧ (1 <
    (↑(List.length l4) : Int) → ((↑(List.length l23) : Int) ≤ 1099511627776 ∧ 0 ≤ n24 ∧ n24 ≤ 1000000000) ∧ ∀ (l26 : List UInt8) (n27 n28 : Int), l23 = l26 ∧ n27 = n24 + 1 ∧ 0 ≤ n28 ∧ ((1 : Int) ≤ 3 → n28 < 3) → (0 < n28 → (-9223372036854775808 ≤
    (↑(List.length l4) : Int) - 1 ∧ (↑(List.length l4) : Int) - (1 : Int) ≤ 9223372036854775807) ∧ ((↑(List.length l26) : Int) ≤ 1099511627776 ∧ 0 ≤ n27 ∧ n27 ≤ 1000000000) ∧ ∀ (l29 : List UInt8) (n30 n31 : Int), l26 = l29 ∧ n30 = n27 + 1 ∧ 0 ≤ n31 ∧ (1
    ≤ (↑(List.length l4) : Int) - 1 → n31 < (↑(List.length l4) : Int) - 1) → 0 ≤ n31 ∧ n31 ≤ (↑(List.length l4) : Int) ∧ (↑(List.length l4) : Int) ≤ (↑(List.length l4) : Int) ∧ (↑(0 + List.length (List.take (Int.toNat ((↑(List.length l4) : Int)
    - n31)) (List.drop (Int.toNat n31) l4))) : Int) ≤ 1099511627776 ∧ (0 : Int) ≤ 0 ∧ 0 ≤ min (↑(Int.toNat (20 - 0)) : Int) 14 ∧ min (↑(Int.toNat (20 - 0)) : Int) 14 ≤ (↑(Int.toNat (20 - 0)) : Int) ∧ (↑(List.length (List.take (Int.toNat ((↑(List.length
    l4) : Int) - n31)) (List.drop (Int.toNat n31) l4)) + List.length (List.take (Int.toNat (min (↑(Int.toNat (20 - 0)) : Int) 14 - 0)) (List.drop (Int.toNat 0 + Int.toNat 0) l25))) : Int) ≤ 1099511627776 ∧ l0 = l29 ∧ n1 ≤ n30 ∧ n30 ≤ n1 + 30000
    ∧ (↑(List.length l4) : Int) ≤ 400 ∧ (↑(List.length (List.take (Int.toNat ((↑(List.length l4) : Int) - n31)) (List.drop (Int.toNat n31) l4) ++ List.take (Int.toNat (min (↑(Int.toNat (20 - 0)) : Int) 14 - 0)) (List.drop (Int.toNat 0 +
    Int.toNat 0) l25))) : Int) ≤ 800) ∧ (¬0 < n28 → l0 = l26 ∧ n1 ≤ n27 ∧ n27 ≤ n1 + 30000 ∧ (↑(List.length l4) : Int) ≤ 400 ∧ (↑(List.length (List.take (Int.toNat (20 - 0)) l25)) : Int) ≤ 800)) ∧ (¬1 < (↑(List.length l4) : Int) → l0 = l23 ∧ n1
    ≤ n24 ∧ n24 ≤ n1 + 30000 ∧ (↑(List.length l4) : Int) ≤ 400 ∧ (↑(List.length (List.take (Int.toNat (20 - 0)) l25)) : Int) ≤ 800)) ∧ (¬20 < (↑(List.length l25) : Int) → (1 < (↑(List.length l4) : Int) → ((↑(List.length l23) : Int) ≤
    1099511627776 ∧ 0 ≤ n24 ∧ n24 ≤ 1000000000) ∧ ∀ (l32 : List UInt8) (n33 n34 : Int), l23 = l32 ∧ n33 = n24 + 1 ∧ 0 ≤ n34 ∧ ((1 : Int) ≤ 3 → n34 < 3) → (0 < n34 → (-9223372036854775808 ≤ (↑(List.length l4) : Int) - 1 ∧ (↑(List.length l4) : Int) - (1 : Int) ≤ 9223372036854775807) ∧ ((↑(List.length l32) : Int) ≤ 1099511627776 ∧ 0 ≤ n33 ∧ n33 ≤ 1000000000) ∧ ∀ (l35 : List UInt8) (n36 n37 : Int), l32 = l35 ∧ n36 = n33 + 1 ∧ 0 ≤ n37 ∧ (1 ≤ (↑(List.length l4) : Int) - 1 → n37 < (↑(List.length l4) :
    Int) - 1) → 0 ≤ n37 ∧ n37 ≤ (↑(List.length l4) : Int) ∧ (↑(List.length l4) : Int) ≤ (↑(List.length l4) : Int) ∧ (↑(0 + List.length (List.take (Int.toNat ((↑(List.length l4) : Int) - n37)) (List.drop (Int.toNat n37) l4))) : Int) ≤
    1099511627776 ∧ (0 : Int) ≤ 0 ∧ 0 ≤ min (↑(List.length l25) : Int) 14 ∧ min (↑(List.length l25) : Int) 14 ≤ (↑(List.length l25) : Int) ∧ (↑(List.length (List.take (Int.toNat ((↑(List.length l4) : Int) - n37)) (List.drop (Int.toNat n37) l4)) +
    List.length (List.take (Int.toNat (min (↑(List.length l25) : Int) 14 - 0)) (List.drop (Int.toNat 0) l25))) : Int) ≤ 1099511627776 ∧ l0 = l35 ∧ n1 ≤ n36 ∧ n36 ≤ n1 + 30000 ∧ (↑(List.length l4) : Int) ≤ 400 ∧ (↑(List.length (List.take
    (Int.toNat ((↑(List.length l4) : Int) - n37)) (List.drop (Int.toNat n37) l4) ++ List.take (Int.toNat (min (↑(List.length l25) : Int) 14 - 0)) (List.drop (Int.toNat 0) l25))) : Int) ≤ 800) ∧ (¬0 < n34 → l0 = l32 ∧ n1 ≤ n33 ∧ n33 ≤ n1 + 30000
    ∧ (↑(List.length l4) : Int) ≤ 400 ∧ (↑(List.length l25) : Int) ≤ 800)) ∧ (¬1 < (↑(List.length l4) : Int) → l0 = l23 ∧ n1 ≤ n24 ∧ n24 ≤ n1 + 30000 ∧ (↑(List.length l4) : Int) ≤ 400 ∧ (↑(List.length l25) : Int) ≤ 800)))) ∧ (¬12 <
    (↑(List.length l4) : Int) → ((↑(List.length l2) : Int) ≤ 1099511627776 ∧ 0 ≤ n3 ∧ n3 ≤ 900000000) ∧ ∀ (l38 : List UInt8) (n39 : Int) (l40 : List Int), l2 = l38 ∧ n3 ≤ n39 ∧ n39 ≤ n3 + 10000 ∧ (↑(List.length l40) : Int) ≤ 400 → (20 <
    (↑(List.length l40) : Int) → (0 : Int) ≤ 0 ∧ (0 : Int) ≤ 20 ∧ 20 ≤ (↑(List.length l40) : Int) ∧ (1 < (↑(List.length l4) : Int) → ((↑(List.length l38) : Int) ≤ 1099511627776 ∧ 0 ≤ n39 ∧ n39 ≤ 1000000000) ∧ ∀ (l41 : List UInt8) (n42 n43 : Int), l38 = l41 ∧
    n42 = n39 + 1 ∧ 0 ≤ n43 ∧ ((1 : Int) ≤ 3 → n43 < 3) → (0 < n43 → (-9223372036854775808 ≤ (↑(List.length l4) : Int) - 1 ∧ (↑(List.length l4) : Int) - (1 : Int) ≤ 9223372036854775807) ∧ ((↑(List.length l41) : Int) ≤ 1099511627776 ∧ 0 ≤ n42 ∧ n42 ≤ 1000000000)
    ∧ ∀ (l44 : List UInt8) (n45 n46 : Int), l41 = l44 ∧ n45 = n42 + 1 ∧ 0 ≤ n46 ∧ (1 ≤ (↑(List.length l4) : Int) - 1 → n46 < (↑(List.length l4) : Int) - 1) → 0 ≤ n46 ∧ n46 ≤ (↑(List.length l4) : Int) ∧ (↑(List.length l4) : Int) ≤ (↑(List.length
    l4) : Int) ∧ (↑(0 + List.length (List.take (Int.toNat ((↑(List.length l4) : Int) - n46)) (List.drop (Int.toNat n46) l4))) : Int) ≤ 1099511627776 ∧ (0 : Int) ≤ 0 ∧ 0 ≤ min (↑(Int.toNat (20 - 0)) : Int) 14 ∧ min (↑(Int.toNat (20 - 0)) : Int) 14 ≤
    (↑(Int.toNat (20 - 0)) : Int) ∧ (↑(List.length (List.take (Int.toNat ((↑(List.length l4) : Int) - n46)) (List.drop (Int.toNat n46) l4)) + List.length (List.take (Int.toNat (min (↑(Int.toNat (20 - 0)) : Int) 14 - 0)) (List.drop (Int.toNat 0 +
    Int.toNat 0) l40))) : Int) ≤ 1099511627776 ∧ l0 = l44 ∧ n1 ≤ n45 ∧ n45 ≤ n1 + 30000 ∧ (↑(List.length l4) : Int) ≤ 400 ∧ (↑(List.length (List.take (Int.toNat ((↑(List.length l4) : Int) - n46)) (List.drop (Int.toNat n46) l4) ++ List.take
    (Int.toNat (min (↑(Int.toNat (20 - 0)) : Int) 14 - 0)) (List.drop (Int.toNat 0 + Int.toNat 0) l40))) : Int) ≤ 800) ∧ (¬0 < n43 → l0 = l41 ∧ n1 ≤ n42 ∧ n42 ≤ n1 + 30000 ∧ (↑(List.length l4) : Int) ≤ 400 ∧ (↑(List.length (List.take (Int.toNat
    (20 - 0)) l40)) : Int) ≤ 800)) ∧ (¬1 < (↑(List.length l4) : Int) → l0 = l38 ∧ n1 ≤ n39 ∧ n39 ≤ n1 + 30000 ∧ (↑(List.length l4) : Int) ≤ 400 ∧ (↑(List.length (List.take (Int.toNat (20 - 0)) l40)) : Int) ≤ 800)) ∧ (¬20 < (↑(List.length l40) :
    Int) → (1 < (↑(List.length l4) : Int) → ((↑(List.length l38) : Int) ≤ 1099511627776 ∧ 0 ≤ n39 ∧ n39 ≤ 1000000000) ∧ ∀ (l47 : List UInt8) (n48 n49 : Int), l38 = l47 ∧ n48 = n39 + 1 ∧ 0 ≤ n49 ∧ ((1 : Int) ≤ 3 → n49 < 3) → (0 < n49 →
    (-9223372036854775808 ≤ (↑(List.length l4) : Int) - 1 ∧ (↑(List.length l4) : Int) - (1 : Int) ≤ 9223372036854775807) ∧ ((↑(List.length l47) : Int) ≤ 1099511627776 ∧ 0 ≤ n48 ∧ n48 ≤ 1000000000) ∧ ∀ (l50 : List UInt8) (n51 n52 : Int), l47 = l50 ∧ n51
    = n48 + 1 ∧ 0 ≤ n52 ∧ (1 ≤ (↑(List.length l4) : Int) - 1 → n52 < (↑(List.length l4) : Int) - 1) → 0 ≤ n52 ∧ n52 ≤ (↑(List.length l4) : Int) ∧ (↑(List.length l4) : Int) ≤ (↑(List.length l4) : Int) ∧ (↑(0 + List.length (List.take (Int.toNat
    ((↑(List.length l4) : Int) - n52)) (List.drop (Int.toNat n52) l4))) : Int) ≤ 1099511627776 ∧ (0 : Int) ≤ 0 ∧ 0 ≤ min (↑(List.length l40) : Int) 14 ∧ min (↑(List.length l40) : Int) 14 ≤ (↑(List.length l40) : Int) ∧ (↑(List.length (List.take
    (Int.toNat ((↑(List.length l4) : Int) - n52)) (List.drop (Int.toNat n52) l4)) + List.length (List.take (Int.toNat (min (↑(List.length l40) : Int) 14 - 0)) (List.drop (Int.toNat 0) l40))) : Int) ≤ 1099511627776 ∧ l0 = l50 ∧ n1 ≤ n51 ∧ n51 ≤
    n1 + 30000 ∧ (↑(List.length l4) : Int) ≤ 400 ∧ (↑(List.length (List.take (Int.toNat ((↑(List.length l4) : Int) - n52)) (List.drop (Int.toNat n52) l4) ++ List.take (Int.toNat (min (↑(List.length l40) : Int) 14 - 0)) (List.drop (Int.toNat 0)
    l40))) : Int) ≤ 800) ∧ (¬0 < n49 → l0 = l47 ∧ n1 ≤ n48 ∧ n48 ≤ n1 + 30000 ∧ (↑(List.length l4) : Int) ≤ 400 ∧ (↑(List.length l40) : Int) ≤ 800)) ∧ (¬1 < (↑(List.length l4) : Int) → l0 = l38 ∧ n1 ≤ n39 ∧ n39 ≤ n1 + 30000 ∧ (↑(List.length l4)
    : Int) ≤ 400 ∧ (↑(List.length l40) : Int) ≤ 800)))
theorem v_s_l92Preface : V_s_l92Preface := by
  unfold V_s_l92Preface
  rintro b p ⟨hz, h0, h1⟩
  repeat' (first | apply And.intro | (rintro _ _ _ ⟨rfl, rfl, _, _⟩) | (rintro _ _ _ ⟨rfl, _, _, _⟩) | (rintro _ _ _ _ ⟨rfl, _, _, _⟩) | (rintro _ _ ⟨rfl, _⟩) | intro _)
  all_goals try (first | omega | with_reducible rfl | with_reducible assumption | (simp only [List.length_append, List.length_take, List.length_drop, List.length_set, List.length_cons, List.length_nil, List.length_replicate, Int.toNat_natCast] <;> omega) | (simp <;> omega))
def V_s_l91Tokens : Prop :=
  ∀ (l0 : List UInt8) (n1 : Int), (↑(List.length l0) : Int) ≤ 1099511627776 ∧ 0 ≤ n1 ∧ n1 ≤ 850000000 → ((↑(List.length l0) : Int) ≤ 1099511627776 ∧ 0 ≤ n1 ∧ n1 ≤ 900000000) ∧ ∀ (l2 : List UInt8) (n3 : Int) (l4 : List Int), l0 = l2 ∧ n1 ≤ n3 ∧
    n3 ≤ n1 + 10000 ∧ (↑(List.length l4) : Int) ≤ 400 → (↑(List.length l4) : Int) ≤ 1099511627776 ∧ ∀ (l5 : List (Int × Int × Int)), l5 = greedyD l4 ∧ (↑(List.length l5) : Int) ≤ 40 → ((↑(List.length l2) : Int) ≤ 1099511627776 ∧ 0 ≤ n3 ∧ n3 ≤
    1000000000) ∧ ∀ (l6 : List UInt8) (n7 n8 : Int), l2 = l6 ∧ n7 = n3 + 1 ∧ 0 ≤ n8 ∧ ((1 : Int) ≤ 3 → n8 < 3) → (n8 = 0 → ((↑(List.length l6) : Int) ≤ 1099511627776 ∧ 0 ≤ n7 ∧ n7 ≤ 1000000000) ∧ ∀ (l9 : List UInt8) (n10 n11 : Int), l6 = l9 ∧ n10 = n7 +
    1 ∧ 0 ≤ n11 ∧ ((1 : Int) ≤ 9 → n11 < 9) → ∃ (I12 : List (Int × Int × Int) → Int → Int → List UInt8 → Int → Prop), ∃ (m13 : List (Int × Int × Int) → Int → Int → List UInt8 → Int → Nat), I12 [] 0 0 l9 n10 ∧ ∀ (l14 : List (Int × Int × Int)) (n15 n16 :
    Int) (l17 : List UInt8) (n18 : Int), I12 l14 n15 n16 l17 n18 → (n16 < n11 → ((↑(List.length l17) : Int) ≤ 1099511627776 ∧ 0 ≤ n18 ∧ n18 ≤ 1000000000) ∧ ∀ (l19 : List UInt8) (n20 n21 : Int), l17 = l19 ∧ n20 = n18 + 1 ∧ 0 ≤ n21 ∧ ((1 : Int) ≤ 8 → n21
    < 8) → (0 < n15 → ((↑(List.length l19) : Int) ≤ 1099511627776 ∧ 0 ≤ n20 ∧ n20 ≤ 1000000000) ∧ ∀ (l22 : List UInt8) (n23 n24 : Int), l19 = l22 ∧ n23 = n20 + 1 ∧ 0 ≤ n24 ∧ ((1 : Int) ≤ 2 → n24 < 2) → (n24 = 0 → ((↑(List.length l22) : Int) ≤
    1099511627776 ∧ 0 ≤ n23 ∧ n23 ≤ 1000000000) ∧ ∀ (l25 : List UInt8) (n26 n27 : Int), l22 = l25 ∧ n26 = n23 + 1 ∧ 0 ≤ n27 ∧ (1 ≤ min n15 16 → n27 < min n15 16) → ((-9223372036854775808 : Int) ≤ 1 + n27 ∧ 1 + n27 ≤ 9223372036854775807) ∧
    ((↑(List.length l25) : Int) ≤ 1099511627776 ∧ 0 ≤ n26 ∧ n26 ≤ 1000000000) ∧ ∀ (l28 : List UInt8) (n29 n30 : Int), l25 = l28 ∧ n29 = n26 + 1 ∧ 0 ≤ n30 ∧ ((1 : Int) ≤ 8 → n30 < 8) → ((-9223372036854775808 : Int) ≤ 2 + n30 ∧ 2 + n30 ≤ 9223372036854775807) ∧
    (↑(List.length l14 + List.length [(0, 1 + n27, 2 + n30)]) : Int) ≤ 1099511627776 ∧ (-9223372036854775808 ≤ n15 + max (2 + n30) 1 ∧ n15 + max (2 + n30) (1 : Int) ≤ 9223372036854775807) ∧ (-9223372036854775808 ≤ n16 + 1 ∧ n16 + (1 : Int) ≤ 9223372036854775807) ∧ I12 (l14 ++ [(0, 1 + n27, 2 + n30)]) (n15 + max (2 + n30) 1) (n16 + 1) l28 n29 ∧ m13 (l14 ++ [(0, 1 + n27, 2 + n30)]) (n15 + max (2 + n30) 1) (n16 + 1) l28 n29 < m13 l14 n15 n16 l17 n18) ∧ (¬n24 = 0 → (↑(List.length
    l14 + List.length [(n21, 0, 0)]) : Int) ≤ 1099511627776 ∧ (-9223372036854775808 ≤ n15 + max 0 1 ∧ n15 + max 0 (1 : Int) ≤ 9223372036854775807) ∧ (-9223372036854775808 ≤ n16 + 1 ∧ n16 + (1 : Int) ≤ 9223372036854775807) ∧ I12 (l14 ++ [(n21, 0, 0)]) (n15 + max
    0 1) (n16 + 1) l22 n23 ∧ m13 (l14 ++ [(n21, 0, 0)]) (n15 + max 0 1) (n16 + 1) l22 n23 < m13 l14 n15 n16 l17 n18)) ∧ (¬0 < n15 → (↑(List.length l14 + List.length [(n21, 0, 0)]) : Int) ≤ 1099511627776 ∧ (-9223372036854775808 ≤ n15 + max 0 1 ∧
    n15 + max 0 (1 : Int) ≤ 9223372036854775807) ∧ (-9223372036854775808 ≤ n16 + 1 ∧ n16 + (1 : Int) ≤ 9223372036854775807) ∧ I12 (l14 ++ [(n21, 0, 0)]) (n15 + max 0 1) (n16 + 1) l19 n20 ∧ m13 (l14 ++ [(n21, 0, 0)]) (n15 + max 0 1) (n16 + 1) l19 n20 < m13 l14
    n15 n16 l17 n18)) ∧ (¬n16 < n11 → (0 < (↑(List.length l14) : Int) → ((↑(List.length l17) : Int) ≤ 1099511627776 ∧ 0 ≤ n18 ∧ n18 ≤ 1000000000) ∧ ∀ (l31 : List UInt8) (n32 n33 : Int), l17 = l31 ∧ n32 = n18 + 1 ∧ 0 ≤ n33 ∧ (1 ≤ (↑(List.length
    l14) : Int) → n33 < (↑(List.length l14) : Int)) → ((↑(List.length l31) : Int) ≤ 1099511627776 ∧ 0 ≤ n32 ∧ n32 ≤ 1000000000) ∧ ∀ (l34 : List UInt8) (n35 n36 : Int), l31 = l34 ∧ n35 = n32 + 1 ∧ 0 ≤ n36 ∧ ((1 : Int) ≤ 24 → n36 < 24) → (n36 = 0 →
    ((↑(List.length l34) : Int) ≤ 1099511627776 ∧ 0 ≤ n35 ∧ n35 ≤ 1000000000) ∧ ∀ (l37 : List UInt8) (n38 n39 : Int), l34 = l37 ∧ n38 = n35 + 1 ∧ 0 ≤ n39 ∧ ((1 : Int) ≤ 20 → n39 < 20) → (-9223372036854775808 ≤ n39 - 1 ∧ n39 - (1 : Int) ≤ 9223372036854775807) ∧
    0 ≤ n33 ∧ n33 < (↑(List.length l14) : Int) ∧ Int.toNat n33 < List.length l14 ∧ l0 = l37 ∧ n1 ≤ n38 ∧ n38 ≤ n1 + 20000 ∧ (↑(List.length (List.set l14 (Int.toNat n33) (Prod.fst (List.getD l14 (Int.toNat n33) (0, 0, 0)), n39 - 1, Prod.snd
    (Prod.snd (List.getD l14 (Int.toNat n33) (0, 0, 0)))))) : Int) ≤ 80) ∧ (¬n36 = 0 → (n36 = 1 → ((↑(List.length l34) : Int) ≤ 1099511627776 ∧ 0 ≤ n35 ∧ n35 ≤ 1000000000) ∧ ∀ (l40 : List UInt8) (n41 n42 : Int), l34 = l40 ∧ n41 = n35 + 1 ∧ 0 ≤
    n42 ∧ ((1 : Int) ≤ 12 → n42 < 12) → (-9223372036854775808 ≤ n42 - 1 ∧ n42 - (1 : Int) ≤ 9223372036854775807) ∧ 0 ≤ n33 ∧ n33 < (↑(List.length l14) : Int) ∧ Int.toNat n33 < List.length l14 ∧ l0 = l40 ∧ n1 ≤ n41 ∧ n41 ≤ n1 + 20000 ∧ (↑(List.length (List.set
    l14 (Int.toNat n33) (Prod.fst (List.getD l14 (Int.toNat n33) (0, 0, 0)), Prod.fst (Prod.snd (List.getD l14 (Int.toNat n33) (0, 0, 0))), n42 - 1))) : Int) ≤ 80) ∧ (¬n36 = 1 → (n36 = 2 → ((↑(List.length l34) : Int) ≤ 1099511627776 ∧ 0 ≤ n35 ∧
    n35 ≤ 1000000000) ∧ ∀ (l43 : List UInt8) (n44 n45 : Int), l34 = l43 ∧ n44 = n35 + 1 ∧ 0 ≤ n45 ∧ ((1 : Int) ≤ 10 → n45 < 10) → (-9223372036854775808 ≤ n45 - 1 ∧ n45 - (1 : Int) ≤ 9223372036854775807) ∧ 0 ≤ n33 ∧ n33 < (↑(List.length l14) : Int) ∧ Int.toNat
    n33 < List.length l14 ∧ l0 = l43 ∧ n1 ≤ n44 ∧ n44 ≤ n1 + 20000 ∧ (↑(List.length (List.set l14 (Int.toNat n33) (n45 - 1, Prod.fst (Prod.snd (List.getD l14 (Int.toNat n33) (0, 0, 0))), Prod.snd (Prod.snd (List.getD l14 (Int.toNat n33) (0, 0,
    0)))))) : Int) ≤ 80) ∧ (¬n36 = 2 → l0 = l34 ∧ n1 ≤ n35 ∧ n35 ≤ n1 + 20000 ∧ (↑(List.length l14) : Int) ≤ 80)))) ∧ (¬0 < (↑(List.length l14) : Int) → l0 = l17 ∧ n1 ≤ n18 ∧ n18 ≤ n1 + 20000 ∧ (↑(List.length l14) : Int) ≤ 80))) ∧ (¬n8 = 0 → (0
    < (↑(List.length l5) : Int) → ((↑(List.length l6) : Int) ≤ 1099511627776 ∧ 0 ≤ n7 ∧ n7 ≤ 1000000000) ∧ ∀ (l46 : List UInt8) (n47 n48 : Int), l6 = l46 ∧ n47 = n7 + 1 ∧ 0 ≤ n48 ∧ (1 ≤ (↑(List.length l5) : Int) → n48 < (↑(List.length l5) :
    Int)) → ((↑(List.length l46) : Int) ≤ 1099511627776 ∧ 0 ≤ n47 ∧ n47 ≤ 1000000000) ∧ ∀ (l49 : List UInt8) (n50 n51 : Int), l46 = l49 ∧ n50 = n47 + 1 ∧ 0 ≤ n51 ∧ ((1 : Int) ≤ 24 → n51 < 24) → (n51 = 0 → ((↑(List.length l49) : Int) ≤ 1099511627776 ∧ 0
    ≤ n50 ∧ n50 ≤ 1000000000) ∧ ∀ (l52 : List UInt8) (n53 n54 : Int), l49 = l52 ∧ n53 = n50 + 1 ∧ 0 ≤ n54 ∧ ((1 : Int) ≤ 20 → n54 < 20) → (-9223372036854775808 ≤ n54 - 1 ∧ n54 - (1 : Int) ≤ 9223372036854775807) ∧ 0 ≤ n48 ∧ n48 < (↑(List.length l5) : Int) ∧
    Int.toNat n48 < List.length l5 ∧ l0 = l52 ∧ n1 ≤ n53 ∧ n53 ≤ n1 + 20000 ∧ (↑(List.length (List.set l5 (Int.toNat n48) (Prod.fst (List.getD l5 (Int.toNat n48) (0, 0, 0)), n54 - 1, Prod.snd (Prod.snd (List.getD l5 (Int.toNat n48) (0, 0,
    0)))))) : Int) ≤ 80) ∧ (¬n51 = 0 → (n51 = 1 → ((↑(List.length l49) : Int) ≤ 1099511627776 ∧ 0 ≤ n50 ∧ n50 ≤ 1000000000) ∧ ∀ (l55 : List UInt8) (n56 n57 : Int), l49 = l55 ∧ n56 = n50 + 1 ∧ 0 ≤ n57 ∧ ((1 : Int) ≤ 12 → n57 < 12) → (-9223372036854775808
    ≤ n57 - 1 ∧ n57 - (1 : Int) ≤ 9223372036854775807) ∧ 0 ≤ n48 ∧ n48 < (↑(List.length l5) : Int) ∧ Int.toNat n48 < List.length l5 ∧ l0 = l55 ∧ n1 ≤ n56 ∧ n56 ≤ n1 + 20000 ∧ (↑(List.length (List.set l5 (Int.toNat n48) (Prod.fst (List.getD l5 (Int.toNat
    n48) (0, 0, 0)), Prod.fst (Prod.snd (List.getD l5 (Int.toNat n48) (0, 0, 0))), n57 - 1))) : Int) ≤ 80) ∧ (¬n51 = 1 → (n51 = 2 → ((↑(List.length l49) : Int) ≤ 1099511627776 ∧ 0 ≤ n50 ∧ n50 ≤ 1000000000) ∧ ∀ (l58 : List UInt8) (n59 n60 : Int),
    l49 = l58 ∧ n59 = n50 + 1 ∧ 0 ≤ n60 ∧ ((1 : Int) ≤ 10 → n60 < 10) → (-9223372036854775808 ≤ n60 - 1 ∧ n60 - (1 : Int) ≤ 9223372036854775807) ∧ 0 ≤ n48 ∧ n48 < (↑(List.length l5) : Int) ∧ Int.toNat n48 < List.length l5 ∧ l0 = l58 ∧ n1 ≤ n59 ∧ n59 ≤ n1 +
    20000 ∧ (↑(List.length (List.set l5 (Int.toNat n48) (n60 - 1, Prod.fst (Prod.snd (List.getD l5 (Int.toNat n48) (0, 0, 0))), Prod.snd (Prod.snd (List.getD l5 (Int.toNat n48) (0, 0, 0)))))) : Int) ≤ 80) ∧ (¬n51 = 2 → l0 = l49 ∧ n1 ≤ n50 ∧ n50
    ≤ n1 + 20000 ∧ (↑(List.length l5) : Int) ≤ 80)))) ∧ (¬0 < (↑(List.length l5) : Int) → l0 = l6 ∧ n1 ≤ n7 ∧ n7 ≤ n1 + 20000 ∧ (↑(List.length l5) : Int) ≤ 80))
theorem v_s_l91Tokens : V_s_l91Tokens := by
  unfold V_s_l91Tokens
  rintro b p ⟨hz, h0, h1⟩
  repeat' (first | apply And.intro | (rintro _ _ _ ⟨rfl, rfl, _, _⟩) | (rintro _ _ _ ⟨rfl, _, _, _⟩) | (rintro _ _ _ _ ⟨rfl, _, _, _⟩) | (rintro _ _ ⟨rfl, _⟩) | intro _)
  all_goals try (first | omega | with_reducible rfl | with_reducible assumption | (simp only [List.length_append, List.length_take, List.length_drop, List.length_set, List.length_cons, List.length_nil, List.length_replicate, Int.toNat_natCast] <;> omega) | (simp <;> omega))
  all_goals
    refine ⟨fun o x i b' p' => b = b' ∧ 0 ≤ i ∧ i ≤ 9 ∧ p ≤ p' ∧ p' ≤ p + 10100 + 5 * i ∧ (o.length : Int) ≤ i ∧ 0 ≤ x ∧ x ≤ 9 * i, fun o x i b' p' => (9 - i).toNat, ?_, ?_⟩ <;> dsimp only
    · simp; omega
    rintro o x i b' p' ⟨rfl, hi0, hi1, hp0, hp1, hl, hx0, hx1⟩
    repeat' (first | apply And.intro | (rintro _ _ _ ⟨rfl, rfl, _, _⟩) | (rintro _ _ _ ⟨rfl, _, _, _⟩) | (rintro _ _ _ _ ⟨rfl, _, _, _⟩) | (rintro _ _ ⟨rfl, _⟩) | intro _)
    all_goals try (first | omega | with_reducible rfl | with_reducible assumption | (simp only [List.length_append, List.length_take, List.length_drop, List.length_set, List.length_cons, List.length_nil, List.length_replicate, Int.toNat_natCast] <;> omega) | (simp <;> omega))
def V_s_DrawPrefaceTokens : Prop :=
  ∀ (l0 : List UInt8), (↑(List.length l0) : Int) ≤ 1099511627776 → (↑(List.length l0) : Int) ≤ 1099511627776 ∧ ∀ (l1 : List UInt8) (n2 : Int), n2 = 0 ∧ (↑(List.length l1) : Int) ≤ 2000 → ((↑(List.length l1) : Int) ≤ 1099511627776 ∧ 0 ≤ n2 ∧ n2
    ≤ 800000000) ∧ ∀ (l3 : List UInt8) (n4 : Int) (l5 l6 : List Int), l1 = l3 ∧ n2 ≤ n4 ∧ n4 ≤ n2 + 30000 ∧ (↑(List.length l5) : Int) ≤ 400 ∧ (↑(List.length l6) : Int) ≤ 800 → (↑(List.length l5) : Int) ≤ 400 ∧ (↑(List.length l6) : Int) ≤ 800
theorem v_s_DrawPrefaceTokens : V_s_DrawPrefaceTokens := by
  unfold V_s_DrawPrefaceTokens
  intro l hz
  refine ⟨hz, ?_⟩
  rintro b p ⟨rfl, hb⟩
  refine ⟨by omega, ?_⟩
  intro b' p' old list h
  exact ⟨h.2.2.2.1, h.2.2.2.2⟩
def V_s_DrawPrefaceGain : Prop :=
  ∀ (l0 : List UInt8), (↑(List.length l0) : Int) ≤ 1099511627776 → (↑(List.length l0) : Int) ≤ 1099511627776 ∧ ∀ (l1 : List UInt8) (n2 : Int), n2 = 0 ∧ (↑(List.length l1) : Int) ≤ 2000 → ((↑(List.length l1) : Int) ≤ 1099511627776 ∧ 0 ≤ n2 ∧ n2
    ≤ 800000000) ∧ ∀ (l3 : List UInt8) (n4 : Int) (l5 l6 : List Int), l1 = l3 ∧ n2 ≤ n4 ∧ n4 ≤ n2 + 30000 ∧ (↑(List.length l5) : Int) ≤ 400 ∧ (↑(List.length l6) : Int) ≤ 800 → (↑(List.length l5) : Int) ≤ 400 ∧ (↑(List.length l6) : Int) ≤ 800
theorem v_s_DrawPrefaceGain : V_s_DrawPrefaceGain := by
  unfold V_s_DrawPrefaceGain
  intro l hz
  refine ⟨hz, ?_⟩
  rintro b p ⟨rfl, hb⟩
  refine ⟨by omega, ?_⟩
  intro b' p' old list h
  exact ⟨h.2.2.2.1, h.2.2.2.2⟩
def V_s_DrawPrefaceExpand : Prop :=
  ∀ (l0 : List UInt8), (↑(List.length l0) : Int) ≤ 1099511627776 → (↑(List.length l0) : Int) ≤ 1099511627776 ∧ ∀ (l1 : List UInt8) (n2 : Int), n2 = 0 ∧ (↑(List.length l1) : Int) ≤ 2000 → ((↑(List.length l1) : Int) ≤ 1099511627776 ∧ 0 ≤ n2 ∧ n2
    ≤ 800000000) ∧ ∀ (l3 : List UInt8) (n4 : Int) (l5 l6 : List Int), l1 = l3 ∧ n2 ≤ n4 ∧ n4 ≤ n2 + 30000 ∧ (↑(List.length l5) : Int) ≤ 400 ∧ (↑(List.length l6) : Int) ≤ 800 → ((↑(List.length l3) : Int) ≤ 1099511627776 ∧ 0 ≤ n4 ∧ n4 ≤
    1000000000) ∧ ∀ (l7 : List UInt8) (n8 n9 : Int), l3 = l7 ∧ n8 = n4 + 1 ∧ 0 ≤ n9 ∧ ((1 : Int) ≤ 4 → n9 < 4) → (n9 = 0 → ((↑(List.length l7) : Int) ≤ 1099511627776 ∧ 0 ≤ n8 ∧ n8 ≤ 850000000) ∧ ∀ (l10 : List UInt8) (n11 : Int) (l12 : List (Int × Int ×
    Int)), l7 = l10 ∧ n8 ≤ n11 ∧ n11 ≤ n8 + 20000 ∧ (↑(List.length l12) : Int) ≤ 80 → (↑(List.length l5) : Int) ≤ 400 ∧ (↑(List.length l12) : Int) ≤ 80) ∧ (¬n9 = 0 → ((↑(List.length l5) : Int) ≤ 10000000 ∧ (↑(List.length l6) : Int) ≤ 10000000) ∧
    ∀ (l13 : List (Int × Int × Int)), l13 = prefD l5 l6 ∧ (↑(List.length l13) : Int) ≤ 40 → (↑(List.length l5) : Int) ≤ 400 ∧ (↑(List.length l13) : Int) ≤ 80)
theorem v_s_DrawPrefaceExpand : V_s_DrawPrefaceExpand := by
  unfold V_s_DrawPrefaceExpand
  intro l hz
  refine ⟨hz, ?_⟩
  rintro b p ⟨rfl, hb⟩
  refine ⟨by omega, ?_⟩
  rintro b' p' old list ⟨rfl, h1, h2, h3, h4⟩
  have q := (prefD_len old list).2
  repeat' (first | apply And.intro | (rintro _ _ _ ⟨rfl, rfl, _, _⟩) | (rintro _ _ _ ⟨rfl, _, _, _⟩) | (rintro _ _ _ _ ⟨rfl, _, _, _⟩) | (rintro _ _ ⟨rfl, _⟩) | intro _)
  all_goals try (first | omega | with_reducible rfl | with_reducible assumption | (simp only [List.length_append, List.length_take, List.length_drop, List.length_set, List.length_cons, List.length_nil, List.length_replicate, Int.toNat_natCast] <;> omega) | (simp <;> omega))
end Go.Proofs.Ythongcikinnjlaa
