/-
  The conditions of functions, proved: s_arch.
-/
import Derived.Test.YtgimfahkojmplaaGreatM
set_option linter.unusedVariables false
set_option linter.unusedSimpArgs false
open Go Go.Ax Go.Mx
namespace Go.Proofs.YtgimfahkojmplaaGreat
def V_s_l92Damage : Prop :=
  ∀ (l0 : List UInt8) (n1 : Int) (l2 : List Int), (l0.length : Int) ≤ 1099511627776 ∧ 0 ≤ n1 ∧ n1 ≤ 900000000 ∧ (l2.length : Int) ≤ 5000 → ((l2.length : Int) = 0 → l0 = l0 ∧ n1 ≤ n1 ∧ n1 ≤ n1 + 10 ∧ (l2.length : Int) ≤ 5001) ∧ (¬(l2.length :
 Int) = 0 → ((l0.length : Int) ≤ 1099511627776 ∧ 0 ≤ n1 ∧ n1 ≤ 1000000000) ∧ ∀ (l3 : List UInt8) (n4 n5 : Int), l0 = l3 ∧ n4 = n1 + 1 ∧ 0 ≤ n5 ∧ (1 ≤ (l2.length : Int) → n5 < (l2.length : Int)) → ((l3.length : Int) ≤ 1099511627776 ∧ 0 ≤ n4 ∧
 n4 ≤ 1000000000) ∧ ∀ (l6 : List UInt8) (n7 n8 : Int), l3 = l6 ∧ n7 = n4 + 1 ∧ 0 ≤ n8 ∧ ((1 : Int) ≤ 8 → n8 < 8) → (n8 = 0 → 0 ≤ n5 ∧ n5 ≤ (l2.length : Int) ∧ (↑(0 + List.length (List.take (n5.toNat) l2)) : Int) ≤ 1099511627776 ∧ l0 = l6 ∧ n1
 ≤ n7 ∧ n7 ≤ n1 + 10 ∧ (↑(List.length (List.take (n5.toNat) l2)) : Int) ≤ 5001) ∧ (¬n8 = 0 → (n8 = 1 → (↑(0 + l2.length) : Int) ≤ 1099511627776 ∧ ((l6.length : Int) ≤ 1099511627776 ∧ 0 ≤ n7 ∧ n7 ≤ 1000000000) ∧ ∀ (l9 : List UInt8) (n10 n11 :
 Int), l6 = l9 ∧ n10 = n7 + 1 ∧ 0 ≤ n11 ∧ ((1 : Int) ≤ 258 → n11 < 258) → (-9223372036854775808 ≤ n11 - 1 ∧ n11 - (1 : Int) ≤ (9223372036854775807 : Int)) ∧ 0 ≤ n5 ∧ n5 < (l2.length : Int) ∧ n5.toNat < l2.length ∧ l0 = l9 ∧ n1 ≤ n10 ∧ n10 ≤
 n1 + 10 ∧ (↑(List.length (List.set l2 (n5.toNat) (n11 - 1))) : Int) ≤ 5001) ∧ (¬n8 = 1 → (n8 = 2 → (↑(0 + l2.length) : Int) ≤ 1099511627776 ∧ ((l6.length : Int) ≤ 1099511627776 ∧ 0 ≤ n7 ∧ n7 ≤ 1000000000) ∧ ∀ (l12 : List UInt8) (n13 n14 :
 Int), l6 = l12 ∧ n13 = n7 + 1 ∧ 0 ≤ n14 ∧ ((1 : Int) ≤ 9 → n14 < 9) → (↑(l2.length + List.length [n14]) : Int) ≤ 1099511627776 ∧ l0 = l12 ∧ n1 ≤ n13 ∧ n13 ≤ n1 + 10 ∧ (↑(List.length (l2 ++ [n14])) : Int) ≤ 5001) ∧ (¬n8 = 2 → l0 = l6 ∧ n1 ≤
 n7 ∧ n7 ≤ n1 + 10 ∧ (l2.length : Int) ≤ 5001))))
theorem v_s_l92Damage : V_s_l92Damage := by
  unfold V_s_l92Damage
  rintro b p l ⟨hb, h0, h1, hl⟩
  refine ⟨fun h => ⟨rfl, by omega, by omega, by omega⟩, fun hne => ⟨⟨hb, by omega, by omega⟩, ?_⟩⟩
  rintro b1 p1 k ⟨rfl, rfl, k0, k1⟩
  refine ⟨⟨hb, by omega, by omega⟩, ?_⟩
  rintro b2 p2 w ⟨rfl, rfl, w0, w1⟩
  have htl : (l.take k.toNat).length ≤ l.length := by simp; omega
  refine ⟨fun _ => ⟨k0, by omega, by omega, rfl, by omega, by omega, by omega⟩, fun _ => ⟨fun _ => ⟨by omega, ⟨hb, by omega, by omega⟩, ?_⟩, fun _ => ⟨fun _ => ⟨by omega, ⟨hb, by omega, by omega⟩, ?_⟩, fun _ => ⟨rfl, by omega, by omega, by omega⟩⟩⟩⟩
  · rintro b3 p3 x ⟨rfl, rfl, x0, x1⟩
    exact ⟨by omega, k0, by omega, by omega, rfl, by omega, by omega, by simp; omega⟩
  · rintro b3 p3 x ⟨rfl, rfl, x0, x1⟩
    exact ⟨by simp; omega, rfl, by omega, by omega, by simp; omega⟩
end Go.Proofs.YtgimfahkojmplaaGreat
