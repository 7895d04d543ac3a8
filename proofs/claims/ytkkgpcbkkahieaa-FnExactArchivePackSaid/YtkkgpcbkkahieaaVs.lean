/-
  The conditions of functions, proved: s_arch.
-/
import Derived.Test.YtkkgpcbkkahieaaM
set_option linter.unusedVariables false
set_option linter.unusedSimpArgs false
open Go Go.Ax Go.Mx
namespace Go.Proofs.Ytkkgpcbkkahieaa
def V_s_l42Pack : Prop :=
  ∀ (l0 : List (Int × List Int)), entOk l0 = true → ∃ (I1 : List Int → List Int → Int → Prop), ∃ (m2 : List Int → List Int → Int → Nat), I1 [(l0.length : Int)] [] 0 ∧ ∀ (l3 l4 : List Int) (n5 : Int), I1 l3 l4 n5 → (n5 < (l0.length : Int) → 0 ≤
 n5 ∧ n5 < (l0.length : Int) ∧ (↑(List.length (Prod.snd (List.getD l0 (n5.toNat) (0, [])))) : Int) ≤ 1099511627776 ∧ ∀ (l6 : List Int), l6 = packB (Prod.snd (List.getD l0 (n5.toNat) (0, []))) ∧ (l6.length : Int) ≤ 82 → 0 ≤ n5 ∧ n5 <
 (l0.length : Int) ∧ (↑(l3.length + List.length [Prod.fst (List.getD l0 (n5.toNat) (0, [])), (l6.length : Int)]) : Int) ≤ 1099511627776 ∧ (↑(l4.length + l6.length) : Int) ≤ 1099511627776 ∧ (-9223372036854775808 ≤ n5 + 1 ∧ n5 + (1 : Int) ≤
 (9223372036854775807 : Int)) ∧ I1 (l3 ++ [Prod.fst (List.getD l0 (n5.toNat) (0, [])), (l6.length : Int)]) (l4 ++ l6) (n5 + 1) ∧ m2 (l3 ++ [Prod.fst (List.getD l0 (n5.toNat) (0, [])), (l6.length : Int)]) (l4 ++ l6) (n5 + 1) < m2 l3 l4 n5) ∧
 (¬n5 < (l0.length : Int) → (↑(l3.length + l4.length) : Int) ≤ 1099511627776 ∧ l3 ++ l4 = packE l0)
theorem v_s_l42Pack : V_s_l42Pack := by
  unfold V_s_l42Pack
  intro es hok
  have h' := entOk_iff.1 hok
  refine ⟨fun o q i => 0 ≤ i ∧ i ≤ es.length ∧ o = (es.length : Int) :: indexE (es.take i.toNat) ∧ q = blocksE (es.take i.toNat), fun o q i => (es.length - i).toNat, ?_, ?_⟩ <;> dsimp only
  · exact ⟨by omega, by omega, rfl, rfl⟩
  rintro o q i ⟨i0, i1, rfl, rfl⟩
  have hil := indexE_len (es.take i.toNat)
  have hbl := blocksE_len (es.take i.toNat)
  have htl := len_take (l := es) i0 i1
  refine ⟨fun hlt => ?_, fun hge => ?_⟩
  · obtain ⟨e1, e2, e3⟩ := ent_at hok i0 hlt
    have hl40 := LV_len e1
    have st1 := indexE_step i0 hlt
    have st2 := blocksE_step i0 hlt
    refine ⟨i0, hlt, by omega, ?_⟩
    rintro p ⟨rfl, hp⟩
    exact ⟨i0, hlt, by simp only [List.length_cons, List.length_nil]; omega, by omega, by omega, ⟨by omega, by omega, by rw [st1]; simp, st2.symm⟩, by omega⟩
  · rw [take_ge hge]
    rw [take_ge hge] at hil hbl
    exact ⟨by simp only [List.length_cons]; omega, rfl⟩
def V_i_ArchivePack : Prop :=
  ∀ (l0 : List (Int × List Int)), szE l0 ≤ 2000000 → szE l0 ≤ 2000000 ∧ (true = entOk l0 → ∃ (I1 : List Int → List Int → Int → Prop), ∃ (m2 : List Int → List Int → Int → Nat), I1 [(l0.length : Int)] [] 0 ∧ ∀ (l3 l4 : List Int) (n5 : Int), I1
 l3 l4 n5 → (n5 < (l0.length : Int) → 0 ≤ n5 ∧ n5 < (l0.length : Int) ∧ (↑(List.length (Prod.snd (List.getD l0 (n5.toNat) (0, [])))) : Int) ≤ 1099511627776 ∧ ∀ (l6 : List Int), l6 = packB (Prod.snd (List.getD l0 (n5.toNat) (0, []))) ∧
 (l6.length : Int) ≤ 82 → (↑(l3.length + List.length [Prod.fst (List.getD l0 (n5.toNat) (0, [])), (l6.length : Int)]) : Int) ≤ 1099511627776 ∧ (↑(l4.length + l6.length) : Int) ≤ 1099511627776 ∧ (-9223372036854775808 ≤ n5 + 1 ∧ n5 + (1 : Int)
 ≤ (9223372036854775807 : Int)) ∧ I1 (l3 ++ [Prod.fst (List.getD l0 (n5.toNat) (0, [])), (l6.length : Int)]) (l4 ++ l6) (n5 + 1) ∧ m2 (l3 ++ [Prod.fst (List.getD l0 (n5.toNat) (0, [])), (l6.length : Int)]) (l4 ++ l6) (n5 + 1) < m2 l3 l4 n5) ∧
 (¬n5 < (l0.length : Int) → (↑(l3.length + l4.length) : Int) ≤ 1099511627776 ∧ true = entOk l0 ∧ l3 ++ l4 = Option.getD (archD l0) [])) ∧ (false = entOk l0 → false = entOk l0 ∧ [] = Option.getD (archD l0) [])
theorem v_i_ArchivePack : V_i_ArchivePack := by
  unfold V_i_ArchivePack
  intro es hz
  refine ⟨hz, fun hv => ?_, fun hv => ⟨hv, by unfold archD; rw [← hv]; rfl⟩⟩
  have hok := hv.symm
  have hD : archD es = some (packE es) := if_pos hok
  rw [hD]
  have h' := entOk_iff.1 hok
  refine ⟨fun o q i => 0 ≤ i ∧ i ≤ es.length ∧ o = (es.length : Int) :: indexE (es.take i.toNat) ∧ q = blocksE (es.take i.toNat), fun o q i => (es.length - i).toNat, ?_, ?_⟩ <;> dsimp only
  · exact ⟨by omega, by omega, rfl, rfl⟩
  rintro o q i ⟨i0, i1, rfl, rfl⟩
  have hil := indexE_len (es.take i.toNat)
  have hbl := blocksE_len (es.take i.toNat)
  have htl := len_take (l := es) i0 i1
  refine ⟨fun hlt => ?_, fun hge => ?_⟩
  · obtain ⟨e1, e2, e3⟩ := ent_at hok i0 hlt
    have hl40 := LV_len e1
    have st1 := indexE_step i0 hlt
    have st2 := blocksE_step i0 hlt
    refine ⟨i0, hlt, by omega, ?_⟩
    rintro p ⟨rfl, hp⟩
    exact ⟨by simp only [List.length_cons, List.length_nil]; omega, by omega, by omega, ⟨by omega, by omega, by rw [st1]; simp, st2.symm⟩, by omega⟩
  · rw [take_ge hge]
    rw [take_ge hge] at hil hbl
    exact ⟨by simp only [List.length_cons]; omega, hv, rfl⟩
def V_s_ArchivePack : Prop :=
  ∀ (l0 : List (Int × List Int)), szE l0 ≤ 2000000 → szE l0 ≤ 2000000 ∧ (true = entOk l0 → entOk l0 = true ∧ ∀ (l1 : List Int), l1 = packE l0 → true = entOk l0 ∧ l1 = Option.getD (archD l0) []) ∧ (false = entOk l0 → false = entOk l0 ∧ [] =
 Option.getD (archD l0) [])
theorem v_s_ArchivePack : V_s_ArchivePack := by
  unfold V_s_ArchivePack
  intro es hz
  refine ⟨hz, fun hv => ⟨hv.symm, ?_⟩, fun hv => ⟨hv, by unfold archD; rw [← hv]; rfl⟩⟩
  rintro r rfl
  have hD : archD es = some (packE es) := if_pos hv.symm
  rw [hD]; exact ⟨hv, rfl⟩
end Go.Proofs.Ytkkgpcbkkahieaa
