/-
  FnExactSizesOf: for every input the law returns true, and each argument reads afterwards as it read before. No conditions.
-/
import Derived.Test.YtmfamcaiimhaeaaRows
import Derived.Test.YtmfamcaiimhaeaaT
import Derived.Test.YtmfamcaiimhaeaaSa
import Derived.Test.YtmfamcaiimhaeaaSg
import Derived.Test.YtmfamcaiimhaeaaSj
import Derived.Test.YtmfamcaiimhaeaaSk
import Derived.Test.YtmfamcaiimhaeaaSl
import Derived.Test.YtmfamcaiimhaeaaSm
import Derived.Test.YtmfamcaiimhaeaaSn
import Derived.Test.YtmfamcaiimhaeaaSo
import Derived.Test.YtmfamcaiimhaeaaSp
import Derived.Test.YtmfamcaiimhaeaaSq
set_option linter.unusedVariables false
set_option linter.unusedSimpArgs false
open Go Go.Ax Go.Mx Go.ChangeShapes Go.WideShapes Go.RowKit Go.ChangeAt
namespace Go.Proofs.Ytmfamcaiimhaeaa
def V_l_FnExactSizesOf : Prop :=
  ∀ (l0 : List Int), (↑(List.length l0) : Int) ≤ (9223372036854775807 : Int) → (1048576 < (↑(List.length l0) : Int) → true = true) ∧ (¬1048576 < (↑(List.length l0) : Int) → (↑(List.length l0) : Int) ≤ 1099511627776 ∧ ∀ (l1 : List Int), l1 = l0 →
    (↑(List.length l1) : Int) ≤ 1099511627776 ∧ ∀ (l2 : List Int), l2 = sizesD l1 ∧ (↑(List.length l2) : Int) ≤ 4 → (↑(List.length l0) : Int) ≤ 1099511627776 ∧ ∀ (l3 : List Int), l3 = l0 → (↑(List.length l3) : Int) ≤ 1099511627776 ∧ ∀ (l4 : List
    Int), l4 = sizesD l3 ∧ (↑(List.length l4) : Int) ≤ 4 → ((↑(List.length l4) : Int) ≤ 1099511627776 ∧ (↑(List.length l2) : Int) ≤ 1099511627776) ∧ (true = decide (l4 = l2) → (↑(List.length l0) : Int) ≤ 1099511627776 ∧ ∀ (l5 : List Int), l5 =
    l0 → ((↑(List.length l3) : Int) ≤ 1099511627776 ∧ (↑(List.length l5) : Int) ≤ 1099511627776) ∧ (true = decide (l3 = l5) → ((↑(List.length l3) : Int) ≤ 1099511627776 ∧ (0 : Int) ≤ 1 ∧ (1 : Int) ≤ 1000000000000000) ∧ ∀ (l6 : List Int) (n7 : Int), n7 = 1 +
    (↑(List.length l3) : Int) ∧ l6 = marks 1 (List.length l3) → (n7 < 0 → false = true) ∧ (¬n7 < 0 → ((↑(List.length l4) : Int) ≤ 1099511627776 ∧ (↑(List.length l2) : Int) ≤ 1099511627776) ∧ (true = decide (l4 = l2) → ((↑(List.length l4) : Int)
    ≤ 1099511627776 ∧ (0 : Int) ≤ 1 ∧ (1 : Int) ≤ 1000000000000000) ∧ ∀ (l8 : List Int) (n9 : Int), n9 = 1 + (↑(List.length l4) : Int) ∧ l8 = marks 1 (List.length l4) → ((↑(List.length l8) : Int) ≤ 1099511627776 ∧ (0 : Int) ≤ 1 ∧ (1 : Int) ≤ 1000000000000000) ∧ ∀ (n10 : Int),
    (n10 = if l8 = marks 1 (List.length l8) then 1 + (↑(List.length l8) : Int) else -1) → (n10 < 0 → false = true) ∧ (¬n10 < 0 → (n10 ≠ n9 → false = true) ∧ (¬n10 ≠ n9 → (↑(List.length l0) : Int) ≤ 1099511627776 ∧ ∀ (l11 : List Int), l11 = l0 →
    (↑(List.length l11) : Int) ≤ 1099511627776 ∧ ∀ (l12 : List Int), l12 = sizesD l11 ∧ (↑(List.length l12) : Int) ≤ 4 → ((↑(List.length l12) : Int) ≤ 1099511627776 ∧ (↑(List.length l2) : Int) ≤ 1099511627776) ∧ (true = decide (l12 = l2) →
    ((↑(List.length l8) : Int) ≤ 1099511627776 ∧ (0 : Int) ≤ 1 ∧ (1 : Int) ≤ 1000000000000000) ∧ ∀ (n13 : Int), (n13 = if l8 = marks 1 (List.length l8) then 1 + (↑(List.length l8) : Int) else -1) → (n13 < 0 → false = true) ∧ (¬n13 < 0 → (n13 ≠ n9 → false =
    true) ∧ (¬n13 ≠ n9 → true = true))) ∧ (false = decide (l12 = l2) → false = true)))) ∧ (false = decide (l4 = l2) → false = true))) ∧ (false = decide (l3 = l5) → false = true)) ∧ (false = decide (l4 = l2) → false = true))
theorem v_l_FnExactSizesOf : V_l_FnExactSizesOf := by
  unfold V_l_FnExactSizesOf
  intro a ha
  clear ha
  have h4 : (sizesD a).length ≤ 4 := by unfold sizesD; split <;> simp
  repeat' (first | apply And.intro | (rintro _ rfl) | (rintro _ _ ⟨rfl, rfl⟩) | (intro (h : _ = _ ∧ _ = _); obtain ⟨_, rfl⟩ := h) | (intro _ (h : _ = _ ∧ _ ≤ _); obtain ⟨rfl, _⟩ := h) | intro _)
  all_goals (first | omega | with_reducible rfl | (simp only [marks_len, marks3_len]; omega) | (rename_i h; simp [marks_len, marks3_len] at h; done) | (rename_i h; simp [marks_len, marks3_len] at h; omega) | grind)
def S_l_FnExactSizesOf : FSpec where
  args := [.sc (.sl .int)]
  outs := [.sc .bool]
  pre := fun a => match a with
    | [.sc (.sl .int aList)] => (((aList).length : Nat) : Int) ≤ 9223372036854775807
    | _ => False
  post := fun a r => match a, r with
    | [.sc (.sl .int aList)], [.sc (.bool r)] => r = true
    | _, _ => False
  kept := false
theorem m_l_FnExactSizesOf : Meets Try.prog 6 S_l_FnExactSizesOf :=
  meets tok mixed Try.func6 (by kernel_rfl) (l := [(30, S_l_toIntS), (32, S_l_eqIntS), (35, S_s_SizesOf), (36, S_i_SizesOf), (37, S_l_markIntS), (38, S_l_heldIntS)]) ⟨m_l_toIntS, m_l_eqIntS, m_s_SizesOf, m_i_SizesOf, m_l_markIntS, m_l_heldIntS, trivial⟩ (ann := []) v_l_FnExactSizesOf (by kernel_rfl)
theorem a_l_FnExactSizesOf : LawOf Try.prog Try.f6.params.toList S_l_FnExactSizesOf where
  args := by kernel_rfl
  outs := rfl
  pre := AKs.all_iff.1 (show AKs.all S_l_FnExactSizesOf.args (fun ds => bnds ds → S_l_FnExactSizesOf.pre ds) from fun x0 h => h.1)
  post := AKs.all_iff.1 (show AKs.all S_l_FnExactSizesOf.args (fun ds => ∀ b, S_l_FnExactSizesOf.post ds [.sc (.bool b)] → b = true) from fun x0 _ h => h)
set_option maxRecDepth 100000 in
theorem lifted_l_FnExactSizesOf (os : Os) (started : os.Started) (H : Type) (enc : TypeId × Value → H) :
    ReturnsInHanded {} Try.checked os 6 .any (Rows.fnExactSizesOfSpec.pre6 enc Try.prog Try.f6 Rows.fnExactSizesOfRow.domain false) (Rows.fnExactSizesOfSpec.post enc Try.prog Try.f6 false true false false) :=
  law_lifted (C := Try.checked) (F := S_l_FnExactSizesOf) (by kernel_rfl) started (by kernel_rfl) Try.func6
    (ChangeSpec.witness6 (enc := enc) (C := Try.checked) false ⟨#[], #[.slice none 0 0], []⟩ 8 (by kernel_rfl) (by kernel_rfl) (by kernel_rfl) (by kernel_rfl))
    m_l_FnExactSizesOf a_l_FnExactSizesOf (by kernel_rfl) (of_decide_eq_true (by kernel_rfl)) rfl (fun ds h => by match ds, h with | [d0], _ => rfl) (by kernel_rfl) Try.underlying4
theorem facts_FnExactSizesOf : ∀ P : Program, P = Try.prog → P.initOrder.toList = ioNums.map Char.ofNat → joinedFacts P 6 Try.f6 Rows.fnExactSizesOfSpec Rows.fnExactSizesOfRow = true := by
  intro P hP h
  have h1 := io1 P hP h
  have h2 := io2 P hP h
  have h3 := io3 P hP h
  unfold joinedFacts
  rw [h1, h2, h3]
  subst hP
  show (_ : Bool) = true
  kernel_rfl
theorem proved_FnExactSizesOf : Rows.FnExactSizesOfSaid :=
  OpenClaim.holds_of_wide 6 Try.f6 rfl rfl rfl rfl rfl rfl rfl ⟨rfl, rfl, rfl, rfl, rfl⟩ rfl rfl rfl rfl rfl (by kernel_rfl) Try.func6 (facts_FnExactSizesOf _ rfl ioL)
    (of_decide_eq_true (by kernel_rfl)) (by unfold Func.isWrapper; first | (rw [if_pos (by decide +kernel)]; kernel_rfl) | (rw [if_neg (by decide +kernel)]; exact ⟨rfl, rfl⟩))
    (fun os started H enc _ => lifted_l_FnExactSizesOf os started H enc)
end Go.Proofs.Ytmfamcaiimhaeaa
