/-
  The conditions of functions, proved: c_piece.
-/
import Derived.Test.YthongcikinnjlaaM
set_option linter.unusedVariables false
set_option linter.unusedSimpArgs false
open Go Go.Ax Go.Mx
namespace Go.Proofs.Ythongcikinnjlaa
def V_l_toPiece : Prop :=
  ∀ (n0 n1 n2 : Int), True → n0 = n0 ∧ n1 = n1 ∧ n2 = n2
theorem v_l_toPiece : V_l_toPiece := by
  unfold V_l_toPiece
  simp
def V_l_eqPiece : Prop :=
  ∀ (n0 n1 n2 n3 n4 n5 : Int), True → (n0 ≠ n3 → false = decide ((n0, n1, n2) = (n3, n4, n5))) ∧ (¬n0 ≠ n3 → (n1 ≠ n4 → false = decide ((n0, n1, n2) = (n3, n4, n5))) ∧ (¬n1 ≠ n4 → (n2 ≠ n5 → false = decide ((n0, n1, n2) = (n3, n4, n5))) ∧ (¬n2
    ≠ n5 → true = decide ((n0, n1, n2) = (n3, n4, n5)))))
theorem v_l_eqPiece : V_l_eqPiece := by
  unfold V_l_eqPiece
  intros
  simp only [Prod.mk.injEq]
  grind
def V_l_toPieceS : Prop :=
  ∀ (l0 : List (Int × Int × Int)), (↑(List.length l0) : Int) ≤ 1099511627776 → (↑(List.length l0) : Int) = (↑(List.length l0) : Int) ∧ 0 ≤ (↑(List.length l0) : Int) ∧ (↑(List.length l0) : Int) ≤ 1099511627776 ∧ ∃ (I1 : Int → List (Int × Int ×
    Int) → Prop), ∃ (m2 : Int → List (Int × Int × Int) → Nat), I1 0 (List.replicate (Int.toNat (↑(List.length l0) : Int)) (0, 0, 0)) ∧ ∀ (n3 : Int) (l4 : List (Int × Int × Int)), I1 n3 l4 → (n3 < (↑(List.length l0) : Int) → 0 ≤ n3 ∧ n3 <
    (↑(List.length l0) : Int) ∧ True ∧ ∀ (n5 n6 n7 : Int), n5 = Prod.fst (List.getD l0 (Int.toNat n3) (0, 0, 0)) ∧ n6 = Prod.fst (Prod.snd (List.getD l0 (Int.toNat n3) (0, 0, 0))) ∧ n7 = Prod.snd (Prod.snd (List.getD l0 (Int.toNat n3) (0, 0,
    0))) → 0 ≤ n3 ∧ n3 < (↑(List.length l4) : Int) ∧ Int.toNat n3 < List.length l4 ∧ (-9223372036854775808 ≤ n3 + 1 ∧ n3 + (1 : Int) ≤ 9223372036854775807) ∧ I1 (n3 + 1) (List.set l4 (Int.toNat n3) (n5, n6, n7)) ∧ m2 (n3 + 1) (List.set l4 (Int.toNat n3)
    (n5, n6, n7)) < m2 n3 l4) ∧ (¬n3 < (↑(List.length l0) : Int) → l4 = l0)
theorem v_l_toPieceS : V_l_toPieceS := by
  unfold V_l_toPieceS
  intro l hz
  refine ⟨rfl, by omega, hz, ?_⟩
  refine ⟨fun i o => 0 ≤ i ∧ i ≤ l.length ∧ o = l.take i.toNat ++ List.replicate (l.length - i.toNat) (0, 0, 0), fun i o => (l.length - i).toNat, ?_, ?_⟩ <;> dsimp only
  · simp
  rintro i o ⟨h0, h1, rfl⟩
  refine ⟨fun hlt => ?_, fun hge => ?_⟩
  · have ht := len_take h0 h1
    obtain ⟨n, hn⟩ : ∃ n, l.length - i.toNat = n + 1 := ⟨l.length - i.toNat - 1, by omega⟩
    have hn' : l.length - (i + 1).toNat = n := by omega
    rw [hn, List.replicate_succ, hn', take_lt (0, 0, 0) h0 hlt]
    have hlen : (l.take i.toNat ++ (0, 0, 0) :: List.replicate n ((0, 0, 0) : P3)).length = l.length := by simp; omega
    rw [hlen]
    refine ⟨h0, hlt, trivial, ?_⟩
    rintro a b c ⟨rfl, rfl, rfl⟩
    rw [set_at ht]
    refine ⟨h0, hlt, by omega, by omega, ⟨by omega, by omega, by simp⟩, by omega⟩
  · have : l.length - i.toNat = 0 := by omega
    rw [take_ge hge, this]; simp
def V_l_szPieceS : Prop :=
  ∀ (l0 : List (Int × Int × Int)) (n1 : Int), (↑(List.length l0) : Int) ≤ 9223372036854775807 ∧ 0 ≤ n1 ∧ n1 ≤ 1000000000000000000 → (-9223372036854775808 ≤ n1 - (↑(List.length l0) : Int) ∧ n1 - (↑(List.length l0) : Int) ≤ 9223372036854775807)
    ∧ (n1 - (↑(List.length l0) : Int) < 0 → -1 = if n1 - (↑(List.length l0) : Int) < 0 then -1 else n1 - (↑(List.length l0) : Int)) ∧ (¬n1 - (↑(List.length l0) : Int) < 0 → n1 - (↑(List.length l0) : Int) = if n1 - (↑(List.length l0) : Int) < 0
    then -1 else n1 - (↑(List.length l0) : Int))
theorem v_l_szPieceS : V_l_szPieceS := by
  unfold V_l_szPieceS
  grind
def V_l_eqPieceS : Prop :=
  ∀ (l0 l1 : List (Int × Int × Int)), (↑(List.length l0) : Int) ≤ 1099511627776 ∧ (↑(List.length l1) : Int) ≤ 1099511627776 → ((↑(List.length l0) : Int) ≠ (↑(List.length l1) : Int) → false = decide (l0 = l1)) ∧ (¬(↑(List.length l0) : Int) ≠
    (↑(List.length l1) : Int) → ∃ (I2 : Int → Prop), ∃ (m3 : Int → Nat), I2 0 ∧ ∀ (n4 : Int), I2 n4 → (n4 < (↑(List.length l0) : Int) → 0 ≤ n4 ∧ n4 < (↑(List.length l0) : Int) ∧ 0 ≤ n4 ∧ n4 < (↑(List.length l1) : Int) ∧ (∃ (b : Bool), b = decide
    ((Prod.fst (List.getD l0 (Int.toNat n4) (0, 0, 0)), Prod.fst (Prod.snd (List.getD l0 (Int.toNat n4) (0, 0, 0))), Prod.snd (Prod.snd (List.getD l0 (Int.toNat n4) (0, 0, 0)))) = (Prod.fst (List.getD l1 (Int.toNat n4) (0, 0, 0)), Prod.fst
    (Prod.snd (List.getD l1 (Int.toNat n4) (0, 0, 0))), Prod.snd (Prod.snd (List.getD l1 (Int.toNat n4) (0, 0, 0)))))) ∧ True ∧ (true = decide ((Prod.fst (List.getD l0 (Int.toNat n4) (0, 0, 0)), Prod.fst (Prod.snd (List.getD l0 (Int.toNat n4)
    (0, 0, 0))), Prod.snd (Prod.snd (List.getD l0 (Int.toNat n4) (0, 0, 0)))) = (Prod.fst (List.getD l1 (Int.toNat n4) (0, 0, 0)), Prod.fst (Prod.snd (List.getD l1 (Int.toNat n4) (0, 0, 0))), Prod.snd (Prod.snd (List.getD l1 (Int.toNat n4) (0,
    0, 0))))) → (-9223372036854775808 ≤ n4 + 1 ∧ n4 + (1 : Int) ≤ 9223372036854775807) ∧ I2 (n4 + 1) ∧ m3 (n4 + 1) < m3 n4) ∧ (false = decide ((Prod.fst (List.getD l0 (Int.toNat n4) (0, 0, 0)), Prod.fst (Prod.snd (List.getD l0 (Int.toNat n4) (0, 0,
    0))), Prod.snd (Prod.snd (List.getD l0 (Int.toNat n4) (0, 0, 0)))) = (Prod.fst (List.getD l1 (Int.toNat n4) (0, 0, 0)), Prod.fst (Prod.snd (List.getD l1 (Int.toNat n4) (0, 0, 0))), Prod.snd (Prod.snd (List.getD l1 (Int.toNat n4) (0, 0,
    0))))) → false = decide (l0 = l1))) ∧ (¬n4 < (↑(List.length l0) : Int) → true = decide (l0 = l1)))
theorem v_l_eqPieceS : V_l_eqPieceS := by
  unfold V_l_eqPieceS
  rintro a b ⟨ha, hb⟩
  refine ⟨fun h => ?_, fun h => ?_⟩
  · have : a ≠ b := fun e => h (by rw [e])
    simp [this]
  refine ⟨fun i => 0 ≤ i ∧ i ≤ a.length ∧ (a.drop i.toNat = b.drop i.toNat ↔ a = b), fun i => (a.length - i).toNat, ?_, ?_⟩ <;> dsimp only
  · simp
  rintro i ⟨h0, h1, h2⟩
  refine ⟨fun hlt => ?_, fun hge => ?_⟩
  · rw [drop_lt (0, 0, 0) h0 hlt, drop_lt (0, 0, 0) h0 (show i < (b.length : Int) by omega)] at h2
    grind
  · rw [drop_ge hge, drop_ge (show ¬ i < (b.length : Int) by omega)] at h2
    simp [← h2]
def V_l_samePieces : Prop :=
  ∀ (l0 l1 : List (Int × Int × Int)), (↑(List.length l0) : Int) ≤ 1099511627776 ∧ (↑(List.length l1) : Int) ≤ 1099511627776 → ((↑(List.length l0) : Int) ≠ (↑(List.length l1) : Int) → false = decide (l0 = l1)) ∧ (¬(↑(List.length l0) : Int) ≠
    (↑(List.length l1) : Int) → ∃ (I2 : Int → Prop), ∃ (m3 : Int → Nat), I2 0 ∧ ∀ (n4 : Int), I2 n4 → (n4 < (↑(List.length l0) : Int) → 0 ≤ n4 ∧ n4 < (↑(List.length l0) : Int) ∧ 0 ≤ n4 ∧ n4 < (↑(List.length l1) : Int) ∧ (¬(Prod.fst (List.getD l0
    (Int.toNat n4) (0, 0, 0)) = Prod.fst (List.getD l1 (Int.toNat n4) (0, 0, 0)) ∧ Prod.fst (Prod.snd (List.getD l0 (Int.toNat n4) (0, 0, 0))) = Prod.fst (Prod.snd (List.getD l1 (Int.toNat n4) (0, 0, 0))) ∧ Prod.snd (Prod.snd (List.getD l0
    (Int.toNat n4) (0, 0, 0))) = Prod.snd (Prod.snd (List.getD l1 (Int.toNat n4) (0, 0, 0)))) → false = decide (l0 = l1)) ∧ (¬¬(Prod.fst (List.getD l0 (Int.toNat n4) (0, 0, 0)) = Prod.fst (List.getD l1 (Int.toNat n4) (0, 0, 0)) ∧ Prod.fst
    (Prod.snd (List.getD l0 (Int.toNat n4) (0, 0, 0))) = Prod.fst (Prod.snd (List.getD l1 (Int.toNat n4) (0, 0, 0))) ∧ Prod.snd (Prod.snd (List.getD l0 (Int.toNat n4) (0, 0, 0))) = Prod.snd (Prod.snd (List.getD l1 (Int.toNat n4) (0, 0, 0)))) →
    (-9223372036854775808 ≤ n4 + 1 ∧ n4 + (1 : Int) ≤ 9223372036854775807) ∧ I2 (n4 + 1) ∧ m3 (n4 + 1) < m3 n4)) ∧ (¬n4 < (↑(List.length l0) : Int) → true = decide (l0 = l1)))
theorem v_l_samePieces : V_l_samePieces := by
  unfold V_l_samePieces
  rintro a b ⟨ha, hb⟩
  refine ⟨fun h => ?_, fun h => ?_⟩
  · have : a ≠ b := fun e => h (by rw [e])
    simp [this]
  refine ⟨fun i => 0 ≤ i ∧ i ≤ a.length ∧ (a.drop i.toNat = b.drop i.toNat ↔ a = b), fun i => (a.length - i).toNat, ?_, ?_⟩ <;> dsimp only
  · simp
  rintro i ⟨h0, h1, h2⟩
  refine ⟨fun hlt => ?_, fun hge => ?_⟩
  · rw [drop_lt (0, 0, 0) h0 hlt, drop_lt (0, 0, 0) h0 (show i < (b.length : Int) by omega)] at h2
    grind
  · rw [drop_ge hge, drop_ge (show ¬ i < (b.length : Int) by omega)] at h2
    simp [← h2]
def V_l_markPieceS : Prop :=
  ∀ (l0 : List (Int × Int × Int)) (n1 : Int), (↑(List.length l0) : Int) ≤ 1099511627776 ∧ 0 ≤ n1 ∧ n1 ≤ 1000000000000000 → ∃ (I2 : Int → Int → List (Int × Int × Int) → Prop), ∃ (m3 : Int → Int → List (Int × Int × Int) → Nat), I2 n1 0 l0 ∧ ∀
    (n4 n5 : Int) (l6 : List (Int × Int × Int)), I2 n4 n5 l6 → (n5 < (↑(List.length l6) : Int) → 0 ≤ n5 ∧ n5 < (↑(List.length l6) : Int) ∧ Int.toNat n5 < List.length l6 ∧ (-9223372036854775808 ≤ n4 + 1 ∧ n4 + (1 : Int) ≤ 9223372036854775807) ∧ 0 ≤ n5 ∧
    n5 < (↑(List.length (List.set l6 (Int.toNat n5) (n4, Prod.fst (Prod.snd (List.getD l6 (Int.toNat n5) (0, 0, 0))), Prod.snd (Prod.snd (List.getD l6 (Int.toNat n5) (0, 0, 0)))))) : Int) ∧ Int.toNat n5 < List.length (List.set l6 (Int.toNat n5)
    (n4, Prod.fst (Prod.snd (List.getD l6 (Int.toNat n5) (0, 0, 0))), Prod.snd (Prod.snd (List.getD l6 (Int.toNat n5) (0, 0, 0))))) ∧ (-9223372036854775808 ≤ n4 + 1 + 1 ∧ n4 + 1 + (1 : Int) ≤ 9223372036854775807) ∧ 0 ≤ n5 ∧ n5 < (↑(List.length (List.set
    (List.set l6 (Int.toNat n5) (n4, Prod.fst (Prod.snd (List.getD l6 (Int.toNat n5) (0, 0, 0))), Prod.snd (Prod.snd (List.getD l6 (Int.toNat n5) (0, 0, 0))))) (Int.toNat n5) (Prod.fst (List.getD (List.set l6 (Int.toNat n5) (n4, Prod.fst
    (Prod.snd (List.getD l6 (Int.toNat n5) (0, 0, 0))), Prod.snd (Prod.snd (List.getD l6 (Int.toNat n5) (0, 0, 0))))) (Int.toNat n5) (0, 0, 0)), n4 + 1, Prod.snd (Prod.snd (List.getD (List.set l6 (Int.toNat n5) (n4, Prod.fst (Prod.snd (List.getD
    l6 (Int.toNat n5) (0, 0, 0))), Prod.snd (Prod.snd (List.getD l6 (Int.toNat n5) (0, 0, 0))))) (Int.toNat n5) (0, 0, 0)))))) : Int) ∧ Int.toNat n5 < List.length (List.set (List.set l6 (Int.toNat n5) (n4, Prod.fst (Prod.snd (List.getD l6
    (Int.toNat n5) (0, 0, 0))), Prod.snd (Prod.snd (List.getD l6 (Int.toNat n5) (0, 0, 0))))) (Int.toNat n5) (Prod.fst (List.getD (List.set l6 (Int.toNat n5) (n4, Prod.fst (Prod.snd (List.getD l6 (Int.toNat n5) (0, 0, 0))), Prod.snd (Prod.snd
    (List.getD l6 (Int.toNat n5) (0, 0, 0))))) (Int.toNat n5) (0, 0, 0)), n4 + 1, Prod.snd (Prod.snd (List.getD (List.set l6 (Int.toNat n5) (n4, Prod.fst (Prod.snd (List.getD l6 (Int.toNat n5) (0, 0, 0))), Prod.snd (Prod.snd (List.getD l6
    (Int.toNat n5) (0, 0, 0))))) (Int.toNat n5) (0, 0, 0))))) ∧ (-9223372036854775808 ≤ n4 + 1 + 1 + 1 ∧ n4 + 1 + 1 + (1 : Int) ≤ 9223372036854775807) ∧ (-9223372036854775808 ≤ n5 + 1 ∧ n5 + (1 : Int) ≤ 9223372036854775807) ∧ I2 (n4 + 1 + 1 + 1) (n5 + 1)
    (List.set (List.set (List.set l6 (Int.toNat n5) (n4, Prod.fst (Prod.snd (List.getD l6 (Int.toNat n5) (0, 0, 0))), Prod.snd (Prod.snd (List.getD l6 (Int.toNat n5) (0, 0, 0))))) (Int.toNat n5) (Prod.fst (List.getD (List.set l6 (Int.toNat n5)
    (n4, Prod.fst (Prod.snd (List.getD l6 (Int.toNat n5) (0, 0, 0))), Prod.snd (Prod.snd (List.getD l6 (Int.toNat n5) (0, 0, 0))))) (Int.toNat n5) (0, 0, 0)), n4 + 1, Prod.snd (Prod.snd (List.getD (List.set l6 (Int.toNat n5) (n4, Prod.fst
    (Prod.snd (List.getD l6 (Int.toNat n5) (0, 0, 0))), Prod.snd (Prod.snd (List.getD l6 (Int.toNat n5) (0, 0, 0))))) (Int.toNat n5) (0, 0, 0))))) (Int.toNat n5) (Prod.fst (List.getD (List.set (List.set l6 (Int.toNat n5) (n4, Prod.fst (Prod.snd
    (List.getD l6 (Int.toNat n5) (0, 0, 0))), Prod.snd (Prod.snd (List.getD l6 (Int.toNat n5) (0, 0, 0))))) (Int.toNat n5) (Prod.fst (List.getD (List.set l6 (Int.toNat n5) (n4, Prod.fst (Prod.snd (List.getD l6 (Int.toNat n5) (0, 0, 0))),
    Prod.snd (Prod.snd (List.getD l6 (Int.toNat n5) (0, 0, 0))))) (Int.toNat n5) (0, 0, 0)), n4 + 1, Prod.snd (Prod.snd (List.getD (List.set l6 (Int.toNat n5) (n4, Prod.fst (Prod.snd (List.getD l6 (Int.toNat n5) (0, 0, 0))), Prod.snd (Prod.snd
    (List.getD l6 (Int.toNat n5) (0, 0, 0))))) (Int.toNat n5) (0, 0, 0))))) (Int.toNat n5) (0, 0, 0)), Prod.fst (Prod.snd (List.getD (List.set (List.set l6 (Int.toNat n5) (n4, Prod.fst (Prod.snd (List.getD l6 (Int.toNat n5) (0, 0, 0))), Prod.snd
    (Prod.snd (List.getD l6 (Int.toNat n5) (0, 0, 0))))) (Int.toNat n5) (Prod.fst (List.getD (List.set l6 (Int.toNat n5) (n4, Prod.fst (Prod.snd (List.getD l6 (Int.toNat n5) (0, 0, 0))), Prod.snd (Prod.snd (List.getD l6 (Int.toNat n5) (0, 0,
    0))))) (Int.toNat n5) (0, 0, 0)), n4 + 1, Prod.snd (Prod.snd (List.getD (List.set l6 (Int.toNat n5) (n4, Prod.fst (Prod.snd (List.getD l6 (Int.toNat n5) (0, 0, 0))), Prod.snd (Prod.snd (List.getD l6 (Int.toNat n5) (0, 0, 0))))) (Int.toNat
    n5) (0, 0, 0))))) (Int.toNat n5) (0, 0, 0))), n4 + 1 + 1)) ∧ m3 (n4 + 1 + 1 + 1) (n5 + 1) (List.set (List.set (List.set l6 (Int.toNat n5) (n4, Prod.fst (Prod.snd (List.getD l6 (Int.toNat n5) (0, 0, 0))), Prod.snd (Prod.snd (List.getD l6
    (Int.toNat n5) (0, 0, 0))))) (Int.toNat n5) (Prod.fst (List.getD (List.set l6 (Int.toNat n5) (n4, Prod.fst (Prod.snd (List.getD l6 (Int.toNat n5) (0, 0, 0))), Prod.snd (Prod.snd (List.getD l6 (Int.toNat n5) (0, 0, 0))))) (Int.toNat n5) (0,
    0, 0)), n4 + 1, Prod.snd (Prod.snd (List.getD (List.set l6 (Int.toNat n5) (n4, Prod.fst (Prod.snd (List.getD l6 (Int.toNat n5) (0, 0, 0))), Prod.snd (Prod.snd (List.getD l6 (Int.toNat n5) (0, 0, 0))))) (Int.toNat n5) (0, 0, 0))))) (Int.toNat
    n5) (Prod.fst (List.getD (List.set (List.set l6 (Int.toNat n5) (n4, Prod.fst (Prod.snd (List.getD l6 (Int.toNat n5) (0, 0, 0))), Prod.snd (Prod.snd (List.getD l6 (Int.toNat n5) (0, 0, 0))))) (Int.toNat n5) (Prod.fst (List.getD (List.set l6
    (Int.toNat n5) (n4, Prod.fst (Prod.snd (List.getD l6 (Int.toNat n5) (0, 0, 0))), Prod.snd (Prod.snd (List.getD l6 (Int.toNat n5) (0, 0, 0))))) (Int.toNat n5) (0, 0, 0)), n4 + 1, Prod.snd (Prod.snd (List.getD (List.set l6 (Int.toNat n5) (n4,
    Prod.fst (Prod.snd (List.getD l6 (Int.toNat n5) (0, 0, 0))), Prod.snd (Prod.snd (List.getD l6 (Int.toNat n5) (0, 0, 0))))) (Int.toNat n5) (0, 0, 0))))) (Int.toNat n5) (0, 0, 0)), Prod.fst (Prod.snd (List.getD (List.set (List.set l6
    (Int.toNat n5) (n4, Prod.fst (Prod.snd (List.getD l6 (Int.toNat n5) (0, 0, 0))), Prod.snd (Prod.snd (List.getD l6 (Int.toNat n5) (0, 0, 0))))) (Int.toNat n5) (Prod.fst (List.getD (List.set l6 (Int.toNat n5) (n4, Prod.fst (Prod.snd (List.getD
    l6 (Int.toNat n5) (0, 0, 0))), Prod.snd (Prod.snd (List.getD l6 (Int.toNat n5) (0, 0, 0))))) (Int.toNat n5) (0, 0, 0)), n4 + 1, Prod.snd (Prod.snd (List.getD (List.set l6 (Int.toNat n5) (n4, Prod.fst (Prod.snd (List.getD l6 (Int.toNat n5)
    (0, 0, 0))), Prod.snd (Prod.snd (List.getD l6 (Int.toNat n5) (0, 0, 0))))) (Int.toNat n5) (0, 0, 0))))) (Int.toNat n5) (0, 0, 0))), n4 + 1 + 1)) < m3 n4 n5 l6) ∧ (¬n5 < (↑(List.length l6) : Int) → n4 = n1 + 3 * (↑(List.length l0) : Int) ∧ l6
    = marks3 n1 (List.length l0))
theorem v_l_markPieceS : V_l_markPieceS := by
  unfold V_l_markPieceS
  rintro l k ⟨hz, hk0, hk1⟩
  refine ⟨fun n i o => 0 ≤ i ∧ i ≤ l.length ∧ n = k + 3 * i ∧ o = marks3 k i.toNat ++ l.drop i.toNat, fun n i o => (l.length - i).toNat, ?_, ?_⟩ <;> dsimp only
  · simp [marks3]
  rintro n i o ⟨h0, h1, rfl, rfl⟩
  have ho : (marks3 k i.toNat ++ l.drop i.toNat).length = l.length := by simp [marks3_len]; omega
  rw [ho]
  refine ⟨fun hlt => ?_, fun hge => ?_⟩
  · have ht : ((marks3 k i.toNat).length : Int) = i := by rw [marks3_len]; omega
    have hm : marks3 k (i + 1).toNat = marks3 k i.toNat ++ [(k + 3 * i, k + 3 * i + 1, k + 3 * i + 2)] := by
      rw [show (i + 1).toNat = i.toNat + 1 by omega, marks3_snoc, show ((i.toNat : Nat) : Int) = i by omega]
    rw [drop_lt (0, 0, 0) h0 hlt]
    simp only [set_at ht, getD_at ht, hm, List.length_append, List.length_cons, marks3_len, List.append_assoc, List.cons_append, List.nil_append]
    rw [drop_lt (0, 0, 0) h0 hlt] at ho
    simp only [List.length_append, List.length_cons, marks3_len] at ho
    grind
  · rw [drop_ge hge, show i.toNat = l.length by omega]
    simp; omega
def V_l_heldPieceS : Prop :=
  ∀ (l0 : List (Int × Int × Int)) (n1 : Int), (↑(List.length l0) : Int) ≤ 1099511627776 ∧ 0 ≤ n1 ∧ n1 ≤ 1000000000000000 → ∃ (I2 : Int → Int → Prop), ∃ (m3 : Int → Int → Nat), I2 n1 0 ∧ ∀ (n4 n5 : Int), I2 n4 n5 → (n5 < (↑(List.length l0) :
    Int) → 0 ≤ n5 ∧ n5 < (↑(List.length l0) : Int) ∧ (Prod.fst (List.getD l0 (Int.toNat n5) (0, 0, 0)) ≠ n4 → -1 = if l0 = marks3 n1 (List.length l0) then n1 + 3 * (↑(List.length l0) : Int) else -1) ∧ (¬Prod.fst (List.getD l0 (Int.toNat n5) (0,
    0, 0)) ≠ n4 → (-9223372036854775808 ≤ n4 + 1 ∧ n4 + (1 : Int) ≤ 9223372036854775807) ∧ 0 ≤ n5 ∧ n5 < (↑(List.length l0) : Int) ∧ (Prod.fst (Prod.snd (List.getD l0 (Int.toNat n5) (0, 0, 0))) ≠ n4 + 1 → -1 = if l0 = marks3 n1 (List.length l0) then n1
    + 3 * (↑(List.length l0) : Int) else -1) ∧ (¬Prod.fst (Prod.snd (List.getD l0 (Int.toNat n5) (0, 0, 0))) ≠ n4 + 1 → (-9223372036854775808 ≤ n4 + 1 + 1 ∧ n4 + 1 + (1 : Int) ≤ 9223372036854775807) ∧ 0 ≤ n5 ∧ n5 < (↑(List.length l0) : Int) ∧ (Prod.snd
    (Prod.snd (List.getD l0 (Int.toNat n5) (0, 0, 0))) ≠ n4 + 1 + 1 → -1 = if l0 = marks3 n1 (List.length l0) then n1 + 3 * (↑(List.length l0) : Int) else -1) ∧ (¬Prod.snd (Prod.snd (List.getD l0 (Int.toNat n5) (0, 0, 0))) ≠ n4 + 1 + 1 →
    (-9223372036854775808 ≤ n4 + 1 + 1 + 1 ∧ n4 + 1 + 1 + (1 : Int) ≤ 9223372036854775807) ∧ (-9223372036854775808 ≤ n5 + 1 ∧ n5 + (1 : Int) ≤ 9223372036854775807) ∧ I2 (n4 + 1 + 1 + 1) (n5 + 1) ∧ m3 (n4 + 1 + 1 + 1) (n5 + 1) < m3 n4 n5)))) ∧ (¬n5 <
    (↑(List.length l0) : Int) → n4 = if l0 = marks3 n1 (List.length l0) then n1 + 3 * (↑(List.length l0) : Int) else -1)
theorem v_l_heldPieceS : V_l_heldPieceS := by
  unfold V_l_heldPieceS
  rintro l k ⟨hz, hk0, hk1⟩
  refine ⟨fun n i => 0 ≤ i ∧ i ≤ l.length ∧ n = k + 3 * i ∧ (l.drop i.toNat = marks3 n (l.length - i.toNat) ↔ l = marks3 k l.length), fun n i => (l.length - i).toNat, ?_, ?_⟩ <;> dsimp only
  · simp
  rintro n i ⟨h0, h1, rfl, h2⟩
  refine ⟨fun hlt => ?_, fun hge => ?_⟩
  · obtain ⟨j, hj⟩ : ∃ j, l.length - i.toNat = j + 1 := ⟨l.length - i.toNat - 1, by omega⟩
    have hj' : l.length - (i + 1).toNat = j := by omega
    rw [drop_lt (0, 0, 0) h0 hlt, hj, marks3, List.cons.injEq] at h2
    rw [hj']
    generalize List.getD l i.toNat (0, 0, 0) = x at *
    obtain ⟨x1, x2, x3⟩ := x
    simp only [Prod.mk.injEq] at *
    grind
  · rw [drop_ge hge, show l.length - i.toNat = 0 by omega] at h2
    rw [if_pos (h2.1 rfl)]; omega
end Go.Proofs.Ythongcikinnjlaa
