/-
  The conditions of functions, proved: b_draw.
-/
import Derived.Test.YtfnmhnbadepooaaGreatDoorM
set_option linter.unusedVariables false
set_option linter.unusedSimpArgs false
open Go Go.Ax Go.Mx
namespace Go.Proofs.YtfnmhnbadepooaaGreatDoor
def V_s_l6Open : Prop :=
  ∀ (l0 : List UInt8), (l0.length : Int) ≤ 1099511627776 → (2000 < (l0.length : Int) → (0 : Int) ≤ 2000 ∧ 2000 ≤ (l0.length : Int) ∧ (0 : Int) = 0 ∧ (↑(List.length (List.take (Int.toNat 2000) l0)) : Int) ≤ 2000) ∧ (¬2000 < (l0.length : Int) →
 (0 : Int) = 0 ∧ (l0.length : Int) ≤ 2000)
theorem v_s_l6Open : V_s_l6Open := by
  unfold V_s_l6Open
  intro l hz
  simp; omega
def V_s_pick : Prop :=
  ∀ (l0 : List UInt8) (n1 n2 : Int), (l0.length : Int) ≤ 1099511627776 ∧ 0 ≤ n1 ∧ n1 ≤ 1000000000 → (-9223372036854775808 ≤ n1 + 1 ∧ n1 + (1 : Int) ≤ (9223372036854775807 : Int)) ∧ (n2 < 1 → l0 = l0 ∧ n1 + 1 = n1 + 1 ∧ (0 : Int) ≤ 0 ∧ (1 ≤ n2
 → 0 < n2)) ∧ (¬n2 < 1 → ((l0.length : Int) = 0 → l0 = l0 ∧ n1 + 1 = n1 + 1 ∧ (0 : Int) ≤ 0 ∧ (1 ≤ n2 → 0 < n2)) ∧ (¬(l0.length : Int) = 0 → (-9223372036854775808 ≤ n1 + 1 - 1 ∧ n1 + 1 - (1 : Int) ≤ (9223372036854775807 : Int)) ∧ (n1 + 1 - 1
 < (l0.length : Int) → 0 ≤ n1 + 1 - 1 ∧ n1 + 1 - 1 < (l0.length : Int) ∧ (-9223372036854775808 ≤ (↑(UInt8.toNat (List.getD l0 (Int.toNat (n1 + 1 - 1)) 0)) : Int) ∧ (↑(UInt8.toNat (List.getD l0 (Int.toNat (n1 + 1 - 1)) 0)) : Int) ≤
 (9223372036854775807 : Int)) ∧ 0 ≤ (↑(UInt8.toNat (List.getD l0 (Int.toNat (n1 + 1 - 1)) 0)) : Int) ∧ 0 < n2 ∧ l0 = l0 ∧ n1 + 1 = n1 + 1 ∧ 0 ≤ (↑(UInt8.toNat (List.getD l0 (Int.toNat (n1 + 1 - 1)) 0)) : Int) % n2 ∧ (1 ≤ n2 → (↑(UInt8.toNat
 (List.getD l0 (Int.toNat (n1 + 1 - 1)) 0)) : Int) % n2 < n2)) ∧ (¬n1 + 1 - 1 < (l0.length : Int) → 0 ≤ n1 + 1 - 1 ∧ 0 < (l0.length : Int) ∧ 0 ≤ (n1 + 1 - 1) % (l0.length : Int) ∧ (n1 + 1 - 1) % (l0.length : Int) < (l0.length : Int) ∧
 (-9223372036854775808 ≤ (↑(UInt8.toNat (List.getD l0 (Int.toNat ((n1 + 1 - 1) % (l0.length : Int))) 0)) : Int) ∧ (↑(UInt8.toNat (List.getD l0 (Int.toNat ((n1 + 1 - 1) % (l0.length : Int))) 0)) : Int) ≤ (9223372036854775807 : Int)) ∧
 (-9223372036854775808 ≤ (↑(UInt8.toNat (List.getD l0 (Int.toNat ((n1 + 1 - 1) % (l0.length : Int))) 0)) : Int) * 131 ∧ (↑(UInt8.toNat (List.getD l0 (Int.toNat ((n1 + 1 - 1) % (l0.length : Int))) 0)) : Int) * (131 : Int) ≤
 (9223372036854775807 : Int)) ∧ (-9223372036854775808 ≤ (n1 + 1 - 1) * 7 ∧ (n1 + 1 - 1) * (7 : Int) ≤ (9223372036854775807 : Int)) ∧ (-9223372036854775808 ≤ (n1 + 1 - 1) * 7 + 3 ∧ (n1 + 1 - 1) * 7 + (3 : Int) ≤ (9223372036854775807 : Int)) ∧
 0 ≤ (n1 + 1 - 1) * 7 + 3 ∧ 0 < (l0.length : Int) ∧ 0 ≤ ((n1 + 1 - 1) * 7 + 3) % (l0.length : Int) ∧ ((n1 + 1 - 1) * 7 + 3) % (l0.length : Int) < (l0.length : Int) ∧ (-9223372036854775808 ≤ (↑(UInt8.toNat (List.getD l0 (Int.toNat (((n1 + 1 -
 1) * 7 + 3) % (l0.length : Int))) 0)) : Int) ∧ (↑(UInt8.toNat (List.getD l0 (Int.toNat (((n1 + 1 - 1) * 7 + 3) % (l0.length : Int))) 0)) : Int) ≤ (9223372036854775807 : Int)) ∧ (-9223372036854775808 ≤ (↑(UInt8.toNat (List.getD l0 (Int.toNat
 (((n1 + 1 - 1) * 7 + 3) % (l0.length : Int))) 0)) : Int) * 1117 ∧ (↑(UInt8.toNat (List.getD l0 (Int.toNat (((n1 + 1 - 1) * 7 + 3) % (l0.length : Int))) 0)) : Int) * (1117 : Int) ≤ (9223372036854775807 : Int)) ∧ (-9223372036854775808 ≤
 (↑(UInt8.toNat (List.getD l0 (Int.toNat ((n1 + 1 - 1) % (l0.length : Int))) 0)) : Int) * 131 + (↑(UInt8.toNat (List.getD l0 (Int.toNat (((n1 + 1 - 1) * 7 + 3) % (l0.length : Int))) 0)) : Int) * 1117 ∧ (↑(UInt8.toNat (List.getD l0 (Int.toNat
 ((n1 + 1 - 1) % (l0.length : Int))) 0)) : Int) * 131 + (↑(UInt8.toNat (List.getD l0 (Int.toNat (((n1 + 1 - 1) * 7 + 3) % (l0.length : Int))) 0)) : Int) * (1117 : Int) ≤ (9223372036854775807 : Int)) ∧ (-9223372036854775808 ≤ (n1 + 1 - 1) * 29
 ∧ (n1 + 1 - 1) * (29 : Int) ≤ (9223372036854775807 : Int)) ∧ (-9223372036854775808 ≤ (↑(UInt8.toNat (List.getD l0 (Int.toNat ((n1 + 1 - 1) % (l0.length : Int))) 0)) : Int) * 131 + (↑(UInt8.toNat (List.getD l0 (Int.toNat (((n1 + 1 - 1) * 7 +
 3) % (l0.length : Int))) 0)) : Int) * 1117 + (n1 + 1 - 1) * 29 ∧ (↑(UInt8.toNat (List.getD l0 (Int.toNat ((n1 + 1 - 1) % (l0.length : Int))) 0)) : Int) * 131 + (↑(UInt8.toNat (List.getD l0 (Int.toNat (((n1 + 1 - 1) * 7 + 3) % (l0.length :
 Int))) 0)) : Int) * 1117 + (n1 + 1 - 1) * (29 : Int) ≤ (9223372036854775807 : Int)) ∧ 0 ≤ n1 + 1 - 1 ∧ 0 < (l0.length : Int) ∧ (-9223372036854775808 ≤ (n1 + 1 - 1) / (l0.length : Int) ∧ (n1 + 1 - 1) / (l0.length : Int) ≤ (9223372036854775807
 : Int)) ∧ (-9223372036854775808 ≤ (n1 + 1 - 1) / (l0.length : Int) * 53 ∧ (n1 + 1 - 1) / (l0.length : Int) * (53 : Int) ≤ (9223372036854775807 : Int)) ∧ (-9223372036854775808 ≤ (↑(UInt8.toNat (List.getD l0 (Int.toNat ((n1 + 1 - 1) %
 (l0.length : Int))) 0)) : Int) * 131 + (↑(UInt8.toNat (List.getD l0 (Int.toNat (((n1 + 1 - 1) * 7 + 3) % (l0.length : Int))) 0)) : Int) * 1117 + (n1 + 1 - 1) * 29 + (n1 + 1 - 1) / (l0.length : Int) * 53 ∧ (↑(UInt8.toNat (List.getD l0
 (Int.toNat ((n1 + 1 - 1) % (l0.length : Int))) 0)) : Int) * 131 + (↑(UInt8.toNat (List.getD l0 (Int.toNat (((n1 + 1 - 1) * 7 + 3) % (l0.length : Int))) 0)) : Int) * 1117 + (n1 + 1 - 1) * 29 + (n1 + 1 - 1) / (l0.length : Int) * (53 : Int) ≤
 (9223372036854775807 : Int)) ∧ 0 ≤ (↑(UInt8.toNat (List.getD l0 (Int.toNat ((n1 + 1 - 1) % (l0.length : Int))) 0)) : Int) * 131 + (↑(UInt8.toNat (List.getD l0 (Int.toNat (((n1 + 1 - 1) * 7 + 3) % (l0.length : Int))) 0)) : Int) * 1117 + (n1 +
 1 - 1) * 29 + (n1 + 1 - 1) / (l0.length : Int) * 53 ∧ (0 : Int) < 64 ∧ (-9223372036854775808 ≤ ((↑(UInt8.toNat (List.getD l0 (Int.toNat ((n1 + 1 - 1) % (l0.length : Int))) 0)) : Int) * 131 + (↑(UInt8.toNat (List.getD l0 (Int.toNat (((n1 + 1
 - 1) * 7 + 3) % (l0.length : Int))) 0)) : Int) * 1117 + (n1 + 1 - 1) * 29 + (n1 + 1 - 1) / (l0.length : Int) * 53) / 64 ∧ ((↑(UInt8.toNat (List.getD l0 (Int.toNat ((n1 + 1 - 1) % (l0.length : Int))) 0)) : Int) * 131 + (↑(UInt8.toNat
 (List.getD l0 (Int.toNat (((n1 + 1 - 1) * 7 + 3) % (l0.length : Int))) 0)) : Int) * 1117 + (n1 + 1 - 1) * 29 + (n1 + 1 - 1) / (l0.length : Int) * 53) / (64 : Int) ≤ (9223372036854775807 : Int)) ∧ 0 ≤ bitI BinOp.xor ((↑(UInt8.toNat (List.getD
 l0 (Int.toNat ((n1 + 1 - 1) % (l0.length : Int))) 0)) : Int) * 131 + (↑(UInt8.toNat (List.getD l0 (Int.toNat (((n1 + 1 - 1) * 7 + 3) % (l0.length : Int))) 0)) : Int) * 1117 + (n1 + 1 - 1) * 29 + (n1 + 1 - 1) / (l0.length : Int) * 53)
 (((↑(UInt8.toNat (List.getD l0 (Int.toNat ((n1 + 1 - 1) % (l0.length : Int))) 0)) : Int) * 131 + (↑(UInt8.toNat (List.getD l0 (Int.toNat (((n1 + 1 - 1) * 7 + 3) % (l0.length : Int))) 0)) : Int) * 1117 + (n1 + 1 - 1) * 29 + (n1 + 1 - 1) /
 (l0.length : Int) * 53) / 64) ∧ 0 < n2 ∧ l0 = l0 ∧ n1 + 1 = n1 + 1 ∧ 0 ≤ bitI BinOp.xor ((↑(UInt8.toNat (List.getD l0 (Int.toNat ((n1 + 1 - 1) % (l0.length : Int))) 0)) : Int) * 131 + (↑(UInt8.toNat (List.getD l0 (Int.toNat (((n1 + 1 - 1) *
 7 + 3) % (l0.length : Int))) 0)) : Int) * 1117 + (n1 + 1 - 1) * 29 + (n1 + 1 - 1) / (l0.length : Int) * 53) (((↑(UInt8.toNat (List.getD l0 (Int.toNat ((n1 + 1 - 1) % (l0.length : Int))) 0)) : Int) * 131 + (↑(UInt8.toNat (List.getD l0
 (Int.toNat (((n1 + 1 - 1) * 7 + 3) % (l0.length : Int))) 0)) : Int) * 1117 + (n1 + 1 - 1) * 29 + (n1 + 1 - 1) / (l0.length : Int) * 53) / 64) % n2 ∧ (1 ≤ n2 → bitI BinOp.xor ((↑(UInt8.toNat (List.getD l0 (Int.toNat ((n1 + 1 - 1) % (l0.length
 : Int))) 0)) : Int) * 131 + (↑(UInt8.toNat (List.getD l0 (Int.toNat (((n1 + 1 - 1) * 7 + 3) % (l0.length : Int))) 0)) : Int) * 1117 + (n1 + 1 - 1) * 29 + (n1 + 1 - 1) / (l0.length : Int) * 53) (((↑(UInt8.toNat (List.getD l0 (Int.toNat ((n1 +
 1 - 1) % (l0.length : Int))) 0)) : Int) * 131 + (↑(UInt8.toNat (List.getD l0 (Int.toNat (((n1 + 1 - 1) * 7 + 3) % (l0.length : Int))) 0)) : Int) * 1117 + (n1 + 1 - 1) * 29 + (n1 + 1 - 1) / (l0.length : Int) * 53) / 64) % n2 < n2))))
theorem v_s_pick : V_s_pick := by
  unfold V_s_pick
  rintro b p n ⟨hz, h0, h1⟩
  simp only [Int.add_sub_cancel]
  have hu : ∀ i : Nat, (b.getD i 0).toNat < 256 := fun i => UInt8.toNat_lt _
  refine ⟨by omega, fun h => ⟨by trivial, by trivial, by omega, by omega⟩, fun hn => ⟨fun h => ⟨by trivial, by trivial, by omega, by omega⟩, fun hl => ⟨by omega, fun hp => ?_, fun hp => ?_⟩⟩⟩
  · have := hu p.toNat
    have m1 := Int.emod_nonneg (((b.getD p.toNat 0).toNat : Nat) : Int) (show n ≠ 0 by omega)
    have m2 := Int.emod_lt_of_pos (((b.getD p.toNat 0).toNat : Nat) : Int) (show 0 < n by omega)
    generalize ((((b.getD p.toNat 0).toNat : Nat) : Int) % n) = y at *
    refine ⟨h0, hp, by omega, by omega, by omega, by trivial, by trivial, by omega, by omega⟩
  · have hlp : 0 < (b.length : Int) := by omega
    have m1 := Int.emod_nonneg p (show (b.length : Int) ≠ 0 by omega)
    have m2 := Int.emod_lt_of_pos p hlp
    have m3 := Int.emod_nonneg (p * 7 + 3) (show (b.length : Int) ≠ 0 by omega)
    have m4 := Int.emod_lt_of_pos (p * 7 + 3) hlp
    have d1 : 0 ≤ p / (b.length : Int) := Int.ediv_nonneg h0 (by omega)
    have d2 : p / (b.length : Int) ≤ p := Int.ediv_le_self _ h0
    generalize p / (b.length : Int) = d at *
    generalize p % (b.length : Int) = i at *
    generalize (p * 7 + 3) % (b.length : Int) = j at *
    have u1 := hu i.toNat
    have u2 := hu j.toNat
    generalize (b.getD i.toNat 0).toNat = s at *
    generalize (b.getD j.toNat 0).toNat = t at *
    obtain ⟨x1, x2⟩ := xor_nonneg (a := (s : Int) * 131 + (t : Int) * 1117 + p * 29 + d * 53) (b := ((s : Int) * 131 + (t : Int) * 1117 + p * 29 + d * 53) / 64) (by omega) (by omega) (by omega) (by omega)
    generalize Go.Ax.bitI .xor ((s : Int) * 131 + (t : Int) * 1117 + p * 29 + d * 53) (((s : Int) * 131 + (t : Int) * 1117 + p * 29 + d * 53) / 64) = x at *
    have y1 := Int.emod_nonneg x (show n ≠ 0 by omega)
    have y2 := Int.emod_lt_of_pos x (show 0 < n by omega)
    generalize x % n = y at *
    and_intros <;> first | trivial | omega
def V_s_l91List : Prop :=
  ∀ (l0 : List UInt8) (n1 : Int), (l0.length : Int) ≤ 1099511627776 ∧ 0 ≤ n1 ∧ n1 ≤ 900000000 → ((l0.length : Int) ≤ 1099511627776 ∧ 0 ≤ n1 ∧ n1 ≤ 1000000000) ∧ ∀ (l2 : List UInt8) (n3 n4 : Int), l0 = l2 ∧ n3 = n1 + 1 ∧ 0 ≤ n4 ∧ ((1 : Int) ≤ 8
 → n4 < 8) → ((l2.length : Int) ≤ 1099511627776 ∧ 0 ≤ n3 ∧ n3 ≤ 1000000000) ∧ ∀ (l5 : List UInt8) (n6 n7 : Int), l2 = l5 ∧ n6 = n3 + 1 ∧ 0 ≤ n7 ∧ ((1 : Int) ≤ 20 → n7 < 20) → (n7 = 0 → ((l5.length : Int) ≤ 1099511627776 ∧ 0 ≤ n6 ∧ n6 ≤
 1000000000) ∧ ∀ (l8 : List UInt8) (n9 n10 : Int), l5 = l8 ∧ n9 = n6 + 1 ∧ 0 ≤ n10 ∧ ((1 : Int) ≤ 8 → n10 < 8) → ((-9223372036854775808 : Int) ≤ 1 + n10 ∧ 1 + n10 ≤ (9223372036854775807 : Int)) ∧ ∃ (I11 : List Int → Int → List UInt8 → Int →
 Prop), ∃ (m12 : List Int → Int → List UInt8 → Int → Nat), I11 [] 0 l8 n9 ∧ ∀ (l13 : List Int) (n14 : Int) (l15 : List UInt8) (n16 : Int), I11 l13 n14 l15 n16 → (n14 < 40 → ((l15.length : Int) ≤ 1099511627776 ∧ 0 ≤ n16 ∧ n16 ≤ 1000000000) ∧ ∀
 (l17 : List UInt8) (n18 n19 : Int), l15 = l17 ∧ n18 = n16 + 1 ∧ 0 ≤ n19 ∧ ((1 : Int) ≤ 4 → n19 < 4) → (n19 = 0 → ((l17.length : Int) ≤ 1099511627776 ∧ 0 ≤ n18 ∧ n18 ≤ 1000000000) ∧ ∀ (l20 : List UInt8) (n21 n22 : Int), l17 = l20 ∧ n21 = n18
 + 1 ∧ 0 ≤ n22 ∧ ((1 : Int) ≤ 6 → n22 < 6) → ((-9223372036854775808 : Int) ≤ 1 + n22 ∧ 1 + n22 ≤ (9223372036854775807 : Int)) ∧ ((l20.length : Int) ≤ 1099511627776 ∧ 0 ≤ n21 ∧ n21 ≤ 1000000000) ∧ ∀ (l23 : List UInt8) (n24 n25 : Int), l20 =
 l23 ∧ n24 = n21 + 1 ∧ 0 ≤ n25 ∧ ((1 : Int) ≤ 1 + n10 → n25 < 1 + n10) → ∃ (I26 : List Int → Int → Prop), ∃ (m27 : List Int → Int → Nat), I26 l13 0 ∧ ∀ (l28 : List Int) (n29 : Int), I26 l28 n29 → (n29 < 1 + n22 → (↑(l28.length + List.length
 [n25]) : Int) ≤ 1099511627776 ∧ (-9223372036854775808 ≤ n29 + 1 ∧ n29 + (1 : Int) ≤ (9223372036854775807 : Int)) ∧ I26 (l28 ++ [n25]) (n29 + 1) ∧ m27 (l28 ++ [n25]) (n29 + 1) < m27 l28 n29) ∧ (¬n29 < 1 + n22 → (-9223372036854775808 ≤ n14 + 1
 ∧ n14 + (1 : Int) ≤ (9223372036854775807 : Int)) ∧ I11 l28 (n14 + 1) l23 n24 ∧ m12 l28 (n14 + 1) l23 n24 < m12 l13 n14 l15 n16)) ∧ (¬n19 = 0 → (n19 = 1 → (1 < (l13.length : Int) → (-9223372036854775808 ≤ (l13.length : Int) - 1 ∧ (l13.length
 : Int) - (1 : Int) ≤ (9223372036854775807 : Int)) ∧ ((l17.length : Int) ≤ 1099511627776 ∧ 0 ≤ n18 ∧ n18 ≤ 1000000000) ∧ ∀ (l30 : List UInt8) (n31 n32 : Int), l17 = l30 ∧ n31 = n18 + 1 ∧ 0 ≤ n32 ∧ (1 ≤ (l13.length : Int) - 1 → n32 <
 (l13.length : Int) - 1) → (-9223372036854775808 ≤ n32 + 2 ∧ n32 + (2 : Int) ≤ (9223372036854775807 : Int)) ∧ ((l30.length : Int) ≤ 1099511627776 ∧ 0 ≤ n31 ∧ n31 ≤ 1000000000) ∧ ∀ (l33 : List UInt8) (n34 n35 : Int), l30 = l33 ∧ n34 = n31 + 1
 ∧ 0 ≤ n35 ∧ ((1 : Int) ≤ 7 → n35 < 7) → (-9223372036854775808 ≤ n32 + 2 + n35 ∧ n32 + 2 + n35 ≤ (9223372036854775807 : Int)) ∧ 0 ≤ n32 ∧ n32 ≤ min (n32 + 2 + n35) (l13.length : Int) ∧ min (n32 + 2 + n35) (l13.length : Int) ≤ (l13.length :
 Int) ∧ (↑(l13.length + List.length (List.take (Int.toNat (min (n32 + 2 + n35) (l13.length : Int) - n32)) (List.drop (n32.toNat) l13))) : Int) ≤ 1099511627776 ∧ (-9223372036854775808 ≤ n14 + 1 ∧ n14 + (1 : Int) ≤ (9223372036854775807 : Int))
 ∧ I11 (l13 ++ List.take (Int.toNat (min (n32 + 2 + n35) (l13.length : Int) - n32)) (List.drop (n32.toNat) l13)) (n14 + 1) l33 n34 ∧ m12 (l13 ++ List.take (Int.toNat (min (n32 + 2 + n35) (l13.length : Int) - n32)) (List.drop (n32.toNat) l13))
 (n14 + 1) l33 n34 < m12 l13 n14 l15 n16) ∧ (¬1 < (l13.length : Int) → (-9223372036854775808 ≤ n14 + 1 ∧ n14 + (1 : Int) ≤ (9223372036854775807 : Int)) ∧ I11 l13 (n14 + 1) l17 n18 ∧ m12 l13 (n14 + 1) l17 n18 < m12 l13 n14 l15 n16)) ∧ (¬n19 =
 1 → ((l17.length : Int) ≤ 1099511627776 ∧ 0 ≤ n18 ∧ n18 ≤ 1000000000) ∧ ∀ (l36 : List UInt8) (n37 n38 : Int), l17 = l36 ∧ n37 = n18 + 1 ∧ 0 ≤ n38 ∧ ((1 : Int) ≤ 1 + n10 → n38 < 1 + n10) → (↑(l13.length + List.length [n38]) : Int) ≤
 1099511627776 ∧ (-9223372036854775808 ≤ n14 + 1 ∧ n14 + (1 : Int) ≤ (9223372036854775807 : Int)) ∧ I11 (l13 ++ [n38]) (n14 + 1) l36 n37 ∧ m12 (l13 ++ [n38]) (n14 + 1) l36 n37 < m12 l13 n14 l15 n16))) ∧ (¬n14 < 40 → (40 < (l13.length : Int) →
 ((l15.length : Int) ≤ 1099511627776 ∧ 0 ≤ n16 ∧ n16 ≤ 1000000000) ∧ ∀ (l39 : List UInt8) (n40 n41 : Int), l15 = l39 ∧ n40 = n16 + 1 ∧ 0 ≤ n41 ∧ ((1 : Int) ≤ 6 → n41 < 6) → (0 < n41 → (0 : Int) ≤ 0 ∧ (0 : Int) ≤ 40 ∧ 40 ≤ (l13.length : Int) ∧
 (0 < (↑(Int.toNat (40 - 0)) : Int) → ((l39.length : Int) ≤ 1099511627776 ∧ 0 ≤ n40 ∧ n40 ≤ 1000000000) ∧ ∀ (l42 : List UInt8) (n43 n44 : Int), l39 = l42 ∧ n43 = n40 + 1 ∧ 0 ≤ n44 ∧ ((1 : Int) ≤ 40 → n44 < 40) → (n44 = 0 → ((l42.length : Int)
 ≤ 1099511627776 ∧ 0 ≤ n43 ∧ n43 ≤ 1000000000) ∧ ∀ (l45 : List UInt8) (n46 n47 : Int), l42 = l45 ∧ n46 = n43 + 1 ∧ 0 ≤ n47 ∧ (1 ≤ (↑(Int.toNat (40 - 0)) : Int) → n47 < (↑(Int.toNat (40 - 0)) : Int)) → ((l45.length : Int) ≤ 1099511627776 ∧ 0 ≤
 n46 ∧ n46 ≤ 1000000000) ∧ ∀ (l48 : List UInt8) (n49 n50 : Int), l45 = l48 ∧ n49 = n46 + 1 ∧ 0 ≤ n50 ∧ ((1 : Int) ≤ 2 → n50 < 2) → 0 ≤ n50 ∧ n50 < (↑(List.length [-1, 8]) : Int) ∧ n50.toNat < List.length [-1, 8] ∧ 0 ≤ n47 ∧ n47 < (↑(Int.toNat
 (40 - 0)) : Int) ∧ Int.toNat 0 + n47.toNat < l13.length ∧ l0 = l48 ∧ n1 ≤ n49 ∧ n49 ≤ n1 + 10000 ∧ (↑(List.length (List.take (Int.toNat (40 - 0)) (List.set l13 (Int.toNat 0 + n47.toNat) (List.getD [-1, 8] (n50.toNat) 0)))) : Int) ≤ 400 ∧
 allIn (-1) 8 (List.take (Int.toNat (40 - 0)) (List.set l13 (Int.toNat 0 + n47.toNat) (List.getD [-1, 8] (n50.toNat) 0))) = true) ∧ (¬n44 = 0 → l0 = l42 ∧ n1 ≤ n43 ∧ n43 ≤ n1 + 10000 ∧ (↑(List.length (List.take (Int.toNat (40 - 0)) l13)) :
 Int) ≤ 400 ∧ allIn (-1) 8 (List.take (Int.toNat (40 - 0)) l13) = true)) ∧ (¬0 < (↑(Int.toNat (40 - 0)) : Int) → l0 = l39 ∧ n1 ≤ n40 ∧ n40 ≤ n1 + 10000 ∧ (↑(List.length (List.take (Int.toNat (40 - 0)) l13)) : Int) ≤ 400 ∧ allIn (-1) 8
 (List.take (Int.toNat (40 - 0)) l13) = true)) ∧ (¬0 < n41 → (0 < (l13.length : Int) → ((l39.length : Int) ≤ 1099511627776 ∧ 0 ≤ n40 ∧ n40 ≤ 1000000000) ∧ ∀ (l51 : List UInt8) (n52 n53 : Int), l39 = l51 ∧ n52 = n40 + 1 ∧ 0 ≤ n53 ∧ ((1 : Int)
 ≤ 40 → n53 < 40) → (n53 = 0 → ((l51.length : Int) ≤ 1099511627776 ∧ 0 ≤ n52 ∧ n52 ≤ 1000000000) ∧ ∀ (l54 : List UInt8) (n55 n56 : Int), l51 = l54 ∧ n55 = n52 + 1 ∧ 0 ≤ n56 ∧ (1 ≤ (l13.length : Int) → n56 < (l13.length : Int)) → ((l54.length
 : Int) ≤ 1099511627776 ∧ 0 ≤ n55 ∧ n55 ≤ 1000000000) ∧ ∀ (l57 : List UInt8) (n58 n59 : Int), l54 = l57 ∧ n58 = n55 + 1 ∧ 0 ≤ n59 ∧ ((1 : Int) ≤ 2 → n59 < 2) → 0 ≤ n59 ∧ n59 < (↑(List.length [-1, 8]) : Int) ∧ n59.toNat < List.length [-1, 8] ∧
 0 ≤ n56 ∧ n56 < (l13.length : Int) ∧ n56.toNat < l13.length ∧ l0 = l57 ∧ n1 ≤ n58 ∧ n58 ≤ n1 + 10000 ∧ (↑(List.length (List.set l13 (n56.toNat) (List.getD [-1, 8] (n59.toNat) 0))) : Int) ≤ 400 ∧ allIn (-1) 8 (List.set l13 (n56.toNat)
 (List.getD [-1, 8] (n59.toNat) 0)) = true) ∧ (¬n53 = 0 → l0 = l51 ∧ n1 ≤ n52 ∧ n52 ≤ n1 + 10000 ∧ (l13.length : Int) ≤ 400 ∧ allIn (-1) 8 l13 = true)) ∧ (¬0 < (l13.length : Int) → l0 = l39 ∧ n1 ≤ n40 ∧ n40 ≤ n1 + 10000 ∧ (l13.length : Int) ≤
 400 ∧ allIn (-1) 8 l13 = true))) ∧ (¬40 < (l13.length : Int) → (0 < (l13.length : Int) → ((l15.length : Int) ≤ 1099511627776 ∧ 0 ≤ n16 ∧ n16 ≤ 1000000000) ∧ ∀ (l60 : List UInt8) (n61 n62 : Int), l15 = l60 ∧ n61 = n16 + 1 ∧ 0 ≤ n62 ∧ ((1 :
 Int) ≤ 40 → n62 < 40) → (n62 = 0 → ((l60.length : Int) ≤ 1099511627776 ∧ 0 ≤ n61 ∧ n61 ≤ 1000000000) ∧ ∀ (l63 : List UInt8) (n64 n65 : Int), l60 = l63 ∧ n64 = n61 + 1 ∧ 0 ≤ n65 ∧ (1 ≤ (l13.length : Int) → n65 < (l13.length : Int)) →
 ((l63.length : Int) ≤ 1099511627776 ∧ 0 ≤ n64 ∧ n64 ≤ 1000000000) ∧ ∀ (l66 : List UInt8) (n67 n68 : Int), l63 = l66 ∧ n67 = n64 + 1 ∧ 0 ≤ n68 ∧ ((1 : Int) ≤ 2 → n68 < 2) → 0 ≤ n68 ∧ n68 < (↑(List.length [-1, 8]) : Int) ∧ n68.toNat <
 List.length [-1, 8] ∧ 0 ≤ n65 ∧ n65 < (l13.length : Int) ∧ n65.toNat < l13.length ∧ l0 = l66 ∧ n1 ≤ n67 ∧ n67 ≤ n1 + 10000 ∧ (↑(List.length (List.set l13 (n65.toNat) (List.getD [-1, 8] (n68.toNat) 0))) : Int) ≤ 400 ∧ allIn (-1) 8 (List.set
 l13 (n65.toNat) (List.getD [-1, 8] (n68.toNat) 0)) = true) ∧ (¬n62 = 0 → l0 = l60 ∧ n1 ≤ n61 ∧ n61 ≤ n1 + 10000 ∧ (l13.length : Int) ≤ 400 ∧ allIn (-1) 8 l13 = true)) ∧ (¬0 < (l13.length : Int) → l0 = l15 ∧ n1 ≤ n16 ∧ n16 ≤ n1 + 10000 ∧
 (l13.length : Int) ≤ 400 ∧ allIn (-1) 8 l13 = true)))) ∧ (¬n7 = 0 → ((l5.length : Int) ≤ 1099511627776 ∧ 0 ≤ n6 ∧ n6 ≤ 1000000000) ∧ ∀ (l69 : List UInt8) (n70 n71 : Int), l5 = l69 ∧ n70 = n6 + 1 ∧ 0 ≤ n71 ∧ ((1 : Int) ≤ 8 → n71 < 8) →
 ((-9223372036854775808 : Int) ≤ 1 + n71 ∧ 1 + n71 ≤ (9223372036854775807 : Int)) ∧ ∃ (I72 : List Int → Int → List UInt8 → Int → Prop), ∃ (m73 : List Int → Int → List UInt8 → Int → Nat), I72 [] 0 l69 n70 ∧ ∀ (l74 : List Int) (n75 : Int) (l76
 : List UInt8) (n77 : Int), I72 l74 n75 l76 n77 → (n75 < n4 → ((l76.length : Int) ≤ 1099511627776 ∧ 0 ≤ n77 ∧ n77 ≤ 1000000000) ∧ ∀ (l78 : List UInt8) (n79 n80 : Int), l76 = l78 ∧ n79 = n77 + 1 ∧ 0 ≤ n80 ∧ ((1 : Int) ≤ 4 → n80 < 4) → (n80 = 0
 → ((l78.length : Int) ≤ 1099511627776 ∧ 0 ≤ n79 ∧ n79 ≤ 1000000000) ∧ ∀ (l81 : List UInt8) (n82 n83 : Int), l78 = l81 ∧ n82 = n79 + 1 ∧ 0 ≤ n83 ∧ ((1 : Int) ≤ 6 → n83 < 6) → ((-9223372036854775808 : Int) ≤ 1 + n83 ∧ 1 + n83 ≤
 (9223372036854775807 : Int)) ∧ ((l81.length : Int) ≤ 1099511627776 ∧ 0 ≤ n82 ∧ n82 ≤ 1000000000) ∧ ∀ (l84 : List UInt8) (n85 n86 : Int), l81 = l84 ∧ n85 = n82 + 1 ∧ 0 ≤ n86 ∧ ((1 : Int) ≤ 1 + n71 → n86 < 1 + n71) → ∃ (I87 : List Int → Int →
 Prop), ∃ (m88 : List Int → Int → Nat), I87 l74 0 ∧ ∀ (l89 : List Int) (n90 : Int), I87 l89 n90 → (n90 < 1 + n83 → (↑(l89.length + List.length [n86]) : Int) ≤ 1099511627776 ∧ (-9223372036854775808 ≤ n90 + 1 ∧ n90 + (1 : Int) ≤
 (9223372036854775807 : Int)) ∧ I87 (l89 ++ [n86]) (n90 + 1) ∧ m88 (l89 ++ [n86]) (n90 + 1) < m88 l89 n90) ∧ (¬n90 < 1 + n83 → (-9223372036854775808 ≤ n75 + 1 ∧ n75 + (1 : Int) ≤ (9223372036854775807 : Int)) ∧ I72 l89 (n75 + 1) l84 n85 ∧ m73
 l89 (n75 + 1) l84 n85 < m73 l74 n75 l76 n77)) ∧ (¬n80 = 0 → (n80 = 1 → (1 < (l74.length : Int) → (-9223372036854775808 ≤ (l74.length : Int) - 1 ∧ (l74.length : Int) - (1 : Int) ≤ (9223372036854775807 : Int)) ∧ ((l78.length : Int) ≤
 1099511627776 ∧ 0 ≤ n79 ∧ n79 ≤ 1000000000) ∧ ∀ (l91 : List UInt8) (n92 n93 : Int), l78 = l91 ∧ n92 = n79 + 1 ∧ 0 ≤ n93 ∧ (1 ≤ (l74.length : Int) - 1 → n93 < (l74.length : Int) - 1) → (-9223372036854775808 ≤ n93 + 2 ∧ n93 + (2 : Int) ≤
 (9223372036854775807 : Int)) ∧ ((l91.length : Int) ≤ 1099511627776 ∧ 0 ≤ n92 ∧ n92 ≤ 1000000000) ∧ ∀ (l94 : List UInt8) (n95 n96 : Int), l91 = l94 ∧ n95 = n92 + 1 ∧ 0 ≤ n96 ∧ ((1 : Int) ≤ 7 → n96 < 7) → (-9223372036854775808 ≤ n93 + 2 + n96
 ∧ n93 + 2 + n96 ≤ (9223372036854775807 : Int)) ∧ 0 ≤ n93 ∧ n93 ≤ min (n93 + 2 + n96) (l74.length : Int) ∧ min (n93 + 2 + n96) (l74.length : Int) ≤ (l74.length : Int) ∧ (↑(l74.length + List.length (List.take (Int.toNat (min (n93 + 2 + n96)
 (l74.length : Int) - n93)) (List.drop (n93.toNat) l74))) : Int) ≤ 1099511627776 ∧ (-9223372036854775808 ≤ n75 + 1 ∧ n75 + (1 : Int) ≤ (9223372036854775807 : Int)) ∧ I72 (l74 ++ List.take (Int.toNat (min (n93 + 2 + n96) (l74.length : Int) -
 n93)) (List.drop (n93.toNat) l74)) (n75 + 1) l94 n95 ∧ m73 (l74 ++ List.take (Int.toNat (min (n93 + 2 + n96) (l74.length : Int) - n93)) (List.drop (n93.toNat) l74)) (n75 + 1) l94 n95 < m73 l74 n75 l76 n77) ∧ (¬1 < (l74.length : Int) →
 (-9223372036854775808 ≤ n75 + 1 ∧ n75 + (1 : Int) ≤ (9223372036854775807 : Int)) ∧ I72 l74 (n75 + 1) l78 n79 ∧ m73 l74 (n75 + 1) l78 n79 < m73 l74 n75 l76 n77)) ∧ (¬n80 = 1 → ((l78.length : Int) ≤ 1099511627776 ∧ 0 ≤ n79 ∧ n79 ≤ 1000000000)
 ∧ ∀ (l97 : List UInt8) (n98 n99 : Int), l78 = l97 ∧ n98 = n79 + 1 ∧ 0 ≤ n99 ∧ ((1 : Int) ≤ 1 + n71 → n99 < 1 + n71) → (↑(l74.length + List.length [n99]) : Int) ≤ 1099511627776 ∧ (-9223372036854775808 ≤ n75 + 1 ∧ n75 + (1 : Int) ≤
 (9223372036854775807 : Int)) ∧ I72 (l74 ++ [n99]) (n75 + 1) l97 n98 ∧ m73 (l74 ++ [n99]) (n75 + 1) l97 n98 < m73 l74 n75 l76 n77))) ∧ (¬n75 < n4 → (40 < (l74.length : Int) → ((l76.length : Int) ≤ 1099511627776 ∧ 0 ≤ n77 ∧ n77 ≤ 1000000000) ∧
 ∀ (l100 : List UInt8) (n101 n102 : Int), l76 = l100 ∧ n101 = n77 + 1 ∧ 0 ≤ n102 ∧ ((1 : Int) ≤ 6 → n102 < 6) → (0 < n102 → (0 : Int) ≤ 0 ∧ (0 : Int) ≤ 40 ∧ 40 ≤ (l74.length : Int) ∧ (0 < (↑(Int.toNat (40 - 0)) : Int) → ((l100.length : Int) ≤
 1099511627776 ∧ 0 ≤ n101 ∧ n101 ≤ 1000000000) ∧ ∀ (l103 : List UInt8) (n104 n105 : Int), l100 = l103 ∧ n104 = n101 + 1 ∧ 0 ≤ n105 ∧ ((1 : Int) ≤ 40 → n105 < 40) → (n105 = 0 → ((l103.length : Int) ≤ 1099511627776 ∧ 0 ≤ n104 ∧ n104 ≤
 1000000000) ∧ ∀ (l106 : List UInt8) (n107 n108 : Int), l103 = l106 ∧ n107 = n104 + 1 ∧ 0 ≤ n108 ∧ (1 ≤ (↑(Int.toNat (40 - 0)) : Int) → n108 < (↑(Int.toNat (40 - 0)) : Int)) → ((l106.length : Int) ≤ 1099511627776 ∧ 0 ≤ n107 ∧ n107 ≤
 1000000000) ∧ ∀ (l109 : List UInt8) (n110 n111 : Int), l106 = l109 ∧ n110 = n107 + 1 ∧ 0 ≤ n111 ∧ ((1 : Int) ≤ 2 → n111 < 2) → 0 ≤ n111 ∧ n111 < (↑(List.length [-1, 8]) : Int) ∧ n111.toNat < List.length [-1, 8] ∧ 0 ≤ n108 ∧ n108 <
 (↑(Int.toNat (40 - 0)) : Int) ∧ Int.toNat 0 + n108.toNat < l74.length ∧ l0 = l109 ∧ n1 ≤ n110 ∧ n110 ≤ n1 + 10000 ∧ (↑(List.length (List.take (Int.toNat (40 - 0)) (List.set l74 (Int.toNat 0 + n108.toNat) (List.getD [-1, 8] (n111.toNat) 0))))
 : Int) ≤ 400 ∧ allIn (-1) 8 (List.take (Int.toNat (40 - 0)) (List.set l74 (Int.toNat 0 + n108.toNat) (List.getD [-1, 8] (n111.toNat) 0))) = true) ∧ (¬n105 = 0 → l0 = l103 ∧ n1 ≤ n104 ∧ n104 ≤ n1 + 10000 ∧ (↑(List.length (List.take (Int.toNat
 (40 - 0)) l74)) : Int) ≤ 400 ∧ allIn (-1) 8 (List.take (Int.toNat (40 - 0)) l74) = true)) ∧ (¬0 < (↑(Int.toNat (40 - 0)) : Int) → l0 = l100 ∧ n1 ≤ n101 ∧ n101 ≤ n1 + 10000 ∧ (↑(List.length (List.take (Int.toNat (40 - 0)) l74)) : Int) ≤ 400 ∧
 allIn (-1) 8 (List.take (Int.toNat (40 - 0)) l74) = true)) ∧ (¬0 < n102 → (0 < (l74.length : Int) → ((l100.length : Int) ≤ 1099511627776 ∧ 0 ≤ n101 ∧ n101 ≤ 1000000000) ∧ ∀ (l112 : List UInt8) (n113 n114 : Int), l100 = l112 ∧ n113 = n101 + 1
 ∧ 0 ≤ n114 ∧ ((1 : Int) ≤ 40 → n114 < 40) → (n114 = 0 → ((l112.length : Int) ≤ 1099511627776 ∧ 0 ≤ n113 ∧ n113 ≤ 1000000000) ∧ ∀ (l115 : List UInt8) (n116 n117 : Int), l112 = l115 ∧ n116 = n113 + 1 ∧ 0 ≤ n117 ∧ (1 ≤ (l74.length : Int) → n117
 < (l74.length : Int)) → ((l115.length : Int) ≤ 1099511627776 ∧ 0 ≤ n116 ∧ n116 ≤ 1000000000) ∧ ∀ (l118 : List UInt8) (n119 n120 : Int), l115 = l118 ∧ n119 = n116 + 1 ∧ 0 ≤ n120 ∧ ((1 : Int) ≤ 2 → n120 < 2) → 0 ≤ n120 ∧ n120 < (↑(List.length
 [-1, 8]) : Int) ∧ n120.toNat < List.length [-1, 8] ∧ 0 ≤ n117 ∧ n117 < (l74.length : Int) ∧ n117.toNat < l74.length ∧ l0 = l118 ∧ n1 ≤ n119 ∧ n119 ≤ n1 + 10000 ∧ (↑(List.length (List.set l74 (n117.toNat) (List.getD [-1, 8] (n120.toNat) 0)))
 : Int) ≤ 400 ∧ allIn (-1) 8 (List.set l74 (n117.toNat) (List.getD [-1, 8] (n120.toNat) 0)) = true) ∧ (¬n114 = 0 → l0 = l112 ∧ n1 ≤ n113 ∧ n113 ≤ n1 + 10000 ∧ (l74.length : Int) ≤ 400 ∧ allIn (-1) 8 l74 = true)) ∧ (¬0 < (l74.length : Int) →
 l0 = l100 ∧ n1 ≤ n101 ∧ n101 ≤ n1 + 10000 ∧ (l74.length : Int) ≤ 400 ∧ allIn (-1) 8 l74 = true))) ∧ (¬40 < (l74.length : Int) → (0 < (l74.length : Int) → ((l76.length : Int) ≤ 1099511627776 ∧ 0 ≤ n77 ∧ n77 ≤ 1000000000) ∧ ∀ (l121 : List
 UInt8) (n122 n123 : Int), l76 = l121 ∧ n122 = n77 + 1 ∧ 0 ≤ n123 ∧ ((1 : Int) ≤ 40 → n123 < 40) → (n123 = 0 → ((l121.length : Int) ≤ 1099511627776 ∧ 0 ≤ n122 ∧ n122 ≤ 1000000000) ∧ ∀ (l124 : List UInt8) (n125 n126 : Int), l121 = l124 ∧ n125
 = n122 + 1 ∧ 0 ≤ n126 ∧ (1 ≤ (l74.length : Int) → n126 < (l74.length : Int)) → ((l124.length : Int) ≤ 1099511627776 ∧ 0 ≤ n125 ∧ n125 ≤ 1000000000) ∧ ∀ (l127 : List UInt8) (n128 n129 : Int), l124 = l127 ∧ n128 = n125 + 1 ∧ 0 ≤ n129 ∧ ((1 :
 Int) ≤ 2 → n129 < 2) → 0 ≤ n129 ∧ n129 < (↑(List.length [-1, 8]) : Int) ∧ n129.toNat < List.length [-1, 8] ∧ 0 ≤ n126 ∧ n126 < (l74.length : Int) ∧ n126.toNat < l74.length ∧ l0 = l127 ∧ n1 ≤ n128 ∧ n128 ≤ n1 + 10000 ∧ (↑(List.length
 (List.set l74 (n126.toNat) (List.getD [-1, 8] (n129.toNat) 0))) : Int) ≤ 400 ∧ allIn (-1) 8 (List.set l74 (n126.toNat) (List.getD [-1, 8] (n129.toNat) 0)) = true) ∧ (¬n123 = 0 → l0 = l121 ∧ n1 ≤ n122 ∧ n122 ≤ n1 + 10000 ∧ (l74.length : Int)
 ≤ 400 ∧ allIn (-1) 8 l74 = true)) ∧ (¬0 < (l74.length : Int) → l0 = l76 ∧ n1 ≤ n77 ∧ n77 ≤ n1 + 10000 ∧ (l74.length : Int) ≤ 400 ∧ allIn (-1) 8 l74 = true))))
theorem v_s_l91List : V_s_l91List := by
  unfold V_s_l91List
  rintro b p ⟨hz, h0, h1⟩
  have hnil : allIn (-1) 8 ([] : List Int) = true := rfl
  repeat' (first | apply And.intro | (rintro _ _ _ ⟨rfl, rfl, _, _⟩) | (rintro _ _ _ ⟨rfl, _, _, _⟩) | (rintro _ _ _ _ ⟨rfl, _, _, _⟩) | (rintro _ _ ⟨rfl, _⟩) | intro _)
  all_goals try (first | omega | with_reducible rfl | with_reducible assumption | (simp only [List.length_append, List.length_take, List.length_drop, List.length_set, List.length_cons, List.length_nil, List.length_replicate, Int.toNat_natCast] <;> omega) | (simp <;> omega))
  all_goals
    refine ⟨fun o i b' p' => b = b' ∧ 0 ≤ i ∧ i ≤ 40 ∧ p ≤ p' ∧ p' ≤ p + 10 + 3 * i ∧ (o.length : Int) ≤ 8 * i ∧ allIn (-1) 8 o = true, fun o i b' p' => (40 - i).toNat, ?_, ?_⟩ <;> dsimp only
    · exact ⟨by first | rfl | assumption, by omega, by omega, by omega, by omega, by simp, rfl⟩
    rintro o i b' p' ⟨rfl, hi0, hi1, hp0, hp1, hl, ha⟩
    repeat' (first | apply And.intro | (rintro _ _ _ ⟨rfl, rfl, _, _⟩) | (rintro _ _ _ ⟨rfl, _, _, _⟩) | (rintro _ _ _ _ ⟨rfl, _, _, _⟩) | (rintro _ _ ⟨rfl, _⟩) | intro _)
    all_goals try (first | omega | with_reducible rfl | with_reducible assumption | (simp only [List.length_append, List.length_take, List.length_drop, List.length_set, List.length_cons, List.length_nil, List.length_replicate, Int.toNat_natCast] <;> omega) | (simp <;> omega))
  all_goals first
    | assumption
    | exact allIn_append.2 ⟨by assumption, allIn_take _ (allIn_drop _ (by assumption))⟩
    | exact allIn_append.2 ⟨by assumption, allIn_single.2 (by omega)⟩
    | exact allIn_take _ (by assumption)
    | exact allIn_set (by assumption) (getD_pm _).1 (getD_pm _).2
    | exact allIn_set (allIn_take _ (by assumption)) (getD_pm _).1 (getD_pm _).2
    | exact allIn_take _ (allIn_set (by assumption) (getD_pm _).1 (getD_pm _).2)
    | (show ∃ _, _; skip)
  all_goals
    refine ⟨fun o' j => 0 ≤ j ∧ j ≤ 6 ∧ (o'.length : Int) ≤ 8 * i + j ∧ allIn (-1) 8 o' = true, fun o' j => (6 - j).toNat, ?_, ?_⟩ <;> dsimp only
    · exact ⟨by omega, by omega, by omega, by assumption⟩
    rintro o' j ⟨hj0, hj1, hl', ha'⟩
    repeat' (first | apply And.intro | (rintro _ _ _ ⟨rfl, rfl, _, _⟩) | (rintro _ _ _ ⟨rfl, _, _, _⟩) | (rintro _ _ _ _ ⟨rfl, _, _, _⟩) | (rintro _ _ ⟨rfl, _⟩) | intro _)
    all_goals try (first | omega | with_reducible rfl | with_reducible assumption | (simp only [List.length_append, List.length_take, List.length_drop, List.length_set, List.length_cons, List.length_nil, List.length_replicate, Int.toNat_natCast] <;> omega) | (simp <;> omega))
  all_goals first
    | assumption
    | exact allIn_append.2 ⟨by assumption, allIn_single.2 (by omega)⟩
end Go.Proofs.YtfnmhnbadepooaaGreatDoor
