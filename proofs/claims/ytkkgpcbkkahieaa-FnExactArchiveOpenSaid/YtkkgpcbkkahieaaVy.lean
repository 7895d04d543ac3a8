/-
  The conditions of functions, proved: y_held.
-/
import Derived.Test.YtkkgpcbkkahieaaM
set_option linter.unusedVariables false
set_option linter.unusedSimpArgs false
open Go Go.Ax Go.Mx
namespace Go.Proofs.Ytkkgpcbkkahieaa
def V_l_heldEntryS : Prop :=
  ∀ (l0 : List (Int × List Int)) (n1 : Int), szE l0 ≤ 2000000 ∧ 0 ≤ n1 ∧ n1 ≤ 1000000 → ∃ (I2 : Int → Int → Prop), ∃ (m3 : Int → Int → Nat), I2 n1 0 ∧ ∀ (n4 n5 : Int), I2 n4 n5 → (n5 < (l0.length : Int) → 0 ≤ n5 ∧ n5 < (l0.length : Int) ∧
 (Prod.fst (List.getD l0 (n5.toNat) (0, [])) ≠ n4 → -1 = if l0 = mrk n1 l0 then n1 + szE l0 else -1) ∧ (¬Prod.fst (List.getD l0 (n5.toNat) (0, [])) ≠ n4 → (-9223372036854775808 ≤ n4 + 1 ∧ n4 + (1 : Int) ≤ (9223372036854775807 : Int)) ∧ 0 ≤ n5
 ∧ n5 < (l0.length : Int) ∧ ((↑(List.length (Prod.snd (List.getD l0 (n5.toNat) (0, [])))) : Int) ≤ 1099511627776 ∧ 0 ≤ n4 + 1 ∧ n4 + (1 : Int) ≤ 1000000000000000) ∧ ∀ (n6 : Int), (n6 = if Prod.snd (List.getD l0 (n5.toNat) (0, [])) = marks (n4
 + 1) (List.length (Prod.snd (List.getD l0 (n5.toNat) (0, [])))) then n4 + 1 + (↑(List.length (Prod.snd (List.getD l0 (n5.toNat) (0, [])))) : Int) else -1) → (n6 < 0 → -1 = if l0 = mrk n1 l0 then n1 + szE l0 else -1) ∧ (¬n6 < 0 →
 (-9223372036854775808 ≤ n5 + 1 ∧ n5 + (1 : Int) ≤ (9223372036854775807 : Int)) ∧ I2 n6 (n5 + 1) ∧ m3 n6 (n5 + 1) < m3 n4 n5))) ∧ (¬n5 < (l0.length : Int) → n4 = if l0 = mrk n1 l0 then n1 + szE l0 else -1)
theorem v_l_heldEntryS : V_l_heldEntryS := by
  unfold V_l_heldEntryS
  rintro l n ⟨hs, n0, n1⟩
  have hsz := sumIn_nonneg l
  have hz : (l.length : Int) ≤ 2000000 := by unfold szE at hs; omega
  refine ⟨fun k i => 0 ≤ i ∧ i ≤ l.length ∧ k = n + szE (l.take i.toNat) ∧ l.take i.toNat = mrk n (l.take i.toNat), fun k i => (l.length - i).toNat, ?_, ?_⟩ <;> dsimp only
  · exact ⟨by omega, by omega, by simp [szE, sumIn], rfl⟩
  rintro k i ⟨h0, h1, hk, ht⟩
  have hst := szE_take l i.toNat
  have hsn := szE_nonneg (l.take i.toNat)
  refine ⟨fun hlt => ?_, fun hge => ?_⟩
  · obtain ⟨x, e1, e2, e3, e4⟩ := at_mid h0 hlt
    have hx : l.getD i.toNat (0, []) = x := by
      have := getD_mid (l.take i.toNat) x (0, []) (l.drop (i + 1).toNat)
      rw [e4, ← e1] at this
      exact this
    have hel := ent_len h0 hlt
    rw [hx] at hel ⊢
    have key : l = mrk n l → x = (k, marks (k + 1) x.2.length) := fun h => by
      rw [e1, mrk_app, ← hk] at h
      have := (List.append_inj h (mrk_length _ _).symm).2
      rw [mrk, List.cons.injEq] at this
      exact this.1
    have hsx : szE (l.take (i + 1).toNat) = szE (l.take i.toNat) + 1 + x.2.length := by rw [e2, szE_append, szE_cons]; simp [szE, sumIn]; omega
    have hst2 := szE_take l (i + 1).toNat
    refine ⟨h0, hlt, fun hne => ?_, fun heq => ⟨⟨by omega, by omega⟩, h0, hlt, ⟨by omega, by omega, by omega⟩, ?_⟩⟩
    · rw [if_neg (fun h => hne (by rw [key h]))]
    · rintro r hr
      by_cases hm : x.2 = marks (k + 1) x.2.length
      · rw [if_pos hm] at hr
        refine ⟨fun hneg => by omega, fun _ => ⟨⟨by omega, by omega⟩, ⟨by omega, by omega, by omega, ?_⟩, by omega⟩⟩
        rw [e2, mrk_app, ← ht, ← hk, List.append_cancel_left_eq]
        show [x] = [(k, marks (k + 1) x.2.length)]
        rw [← hm, show k = x.1 by omega]
      · rw [if_neg hm] at hr
        exact ⟨fun _ => by rw [if_neg (fun h => hm (congrArg Prod.snd (key h)))], fun h => by omega⟩
  · rw [take_ge hge] at hk ht
    rw [if_pos ht, hk]
end Go.Proofs.Ytkkgpcbkkahieaa
