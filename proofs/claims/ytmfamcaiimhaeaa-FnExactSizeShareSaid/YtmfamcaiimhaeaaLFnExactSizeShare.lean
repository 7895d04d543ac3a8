/-
  FnExactSizeShare: for every input the law returns true, and each argument reads afterwards as it read before. No conditions.
-/
import Derived.Test.YtmfamcaiimhaeaaRows
import Derived.Test.YtmfamcaiimhaeaaT
import Derived.Test.YtmfamcaiimhaeaaSa
import Derived.Test.YtmfamcaiimhaeaaSg
import Derived.Test.YtmfamcaiimhaeaaSj
import Derived.Test.YtmfamcaiimhaeaaSk
import Derived.Test.YtmfamcaiimhaeaaSl
import Derived.Test.YtmfamcaiimhaeaaSm
import Derived.Test.YtmfamcaiimhaeaaSn
import Derived.Test.YtmfamcaiimhaeaaSo
import Derived.Test.YtmfamcaiimhaeaaSp
import Derived.Test.YtmfamcaiimhaeaaSq
set_option linter.unusedVariables false
set_option linter.unusedSimpArgs false
open Go Go.Ax Go.Mx Go.ChangeShapes Go.WideShapes Go.RowKit Go.ChangeAt
namespace Go.Proofs.Ytmfamcaiimhaeaa
def V_l_FnExactSizeShare : Prop :=
  ∀ (l0 : List Int), (↑(List.length l0) : Int) ≤ (9223372036854775807 : Int) → (1048576 < (↑(List.length l0) : Int) → true = true) ∧ (¬1048576 < (↑(List.length l0) : Int) → (↑(List.length l0) : Int) ≤ 1099511627776 ∧ ∀ (l1 : List Int), l1 = l0 →
    (↑(List.length l1) : Int) ≤ 1099511627776 ∧ ∀ (n2 : Int), n2 = shareD l1 → (↑(List.length l0) : Int) ≤ 1099511627776 ∧ ∀ (l3 : List Int), l3 = l0 → (↑(List.length l3) : Int) ≤ 1099511627776 ∧ ∀ (n4 : Int), n4 = shareD l3 → (n4 ≠ n2 → false =
    true) ∧ (¬n4 ≠ n2 → (↑(List.length l0) : Int) ≤ 1099511627776 ∧ ∀ (l5 : List Int), l5 = l0 → ((↑(List.length l3) : Int) ≤ 1099511627776 ∧ (↑(List.length l5) : Int) ≤ 1099511627776) ∧ (true = decide (l3 = l5) → true = true) ∧ (false = decide
    (l3 = l5) → false = true)))
theorem v_l_FnExactSizeShare : V_l_FnExactSizeShare := by
  unfold V_l_FnExactSizeShare
  intro a ha
  clear ha
  repeat' (first | apply And.intro | (rintro _ rfl) | (rintro _ _ ⟨rfl, rfl⟩) | (intro (h : _ = _ ∧ _ = _); obtain ⟨_, rfl⟩ := h) | (intro _ (h : _ = _ ∧ _ ≤ _); obtain ⟨rfl, _⟩ := h) | intro _)
  all_goals (first | omega | with_reducible rfl | (simp only [marks_len, marks3_len]; omega) | (rename_i h; simp [marks_len, marks3_len] at h; done) | (rename_i h; simp [marks_len, marks3_len] at h; omega) | grind)
def S_l_FnExactSizeShare : FSpec where
  args := [.sc (.sl .int)]
  outs := [.sc .bool]
  pre := fun a => match a with
    | [.sc (.sl .int aList)] => (((aList).length : Nat) : Int) ≤ 9223372036854775807
    | _ => False
  post := fun a r => match a, r with
    | [.sc (.sl .int aList)], [.sc (.bool r)] => r = true
    | _, _ => False
  kept := false
theorem m_l_FnExactSizeShare : Meets Try.prog 5 S_l_FnExactSizeShare :=
  meets tok mixed Try.func5 (by kernel_rfl) (l := [(30, S_l_toIntS), (32, S_l_eqIntS), (33, S_s_SizeShare), (34, S_i_SizeShare)]) ⟨m_l_toIntS, m_l_eqIntS, m_s_SizeShare, m_i_SizeShare, trivial⟩ (ann := []) v_l_FnExactSizeShare (by kernel_rfl)
theorem a_l_FnExactSizeShare : LawOf Try.prog Try.f5.params.toList S_l_FnExactSizeShare where
  args := by kernel_rfl
  outs := rfl
  pre := AKs.all_iff.1 (show AKs.all S_l_FnExactSizeShare.args (fun ds => bnds ds → S_l_FnExactSizeShare.pre ds) from fun x0 h => h.1)
  post := AKs.all_iff.1 (show AKs.all S_l_FnExactSizeShare.args (fun ds => ∀ b, S_l_FnExactSizeShare.post ds [.sc (.bool b)] → b = true) from fun x0 _ h => h)
set_option maxRecDepth 100000 in
theorem lifted_l_FnExactSizeShare (os : Os) (started : os.Started) (H : Type) (enc : TypeId × Value → H) :
    ReturnsInHanded {} Try.checked os 5 .any (Rows.fnExactSizeShareSpec.pre6 enc Try.prog Try.f5 Rows.fnExactSizeShareRow.domain false) (Rows.fnExactSizeShareSpec.post enc Try.prog Try.f5 false true false false) :=
  law_lifted (C := Try.checked) (F := S_l_FnExactSizeShare) (by kernel_rfl) started (by kernel_rfl) Try.func5
    (ChangeSpec.witness6 (enc := enc) (C := Try.checked) false ⟨#[], #[.slice none 0 0], []⟩ 8 (by kernel_rfl) (by kernel_rfl) (by kernel_rfl) (by kernel_rfl))
    m_l_FnExactSizeShare a_l_FnExactSizeShare (by kernel_rfl) (of_decide_eq_true (by kernel_rfl)) rfl (fun ds h => by match ds, h with | [d0], _ => rfl) (by kernel_rfl) Try.underlying4
theorem facts_FnExactSizeShare : ∀ P : Program, P = Try.prog → P.initOrder.toList = ioNums.map Char.ofNat → joinedFacts P 5 Try.f5 Rows.fnExactSizeShareSpec Rows.fnExactSizeShareRow = true := by
  intro P hP h
  have h1 := io1 P hP h
  have h2 := io2 P hP h
  have h3 := io3 P hP h
  unfold joinedFacts
  rw [h1, h2, h3]
  subst hP
  show (_ : Bool) = true
  kernel_rfl
theorem proved_FnExactSizeShare : Rows.FnExactSizeShareSaid :=
  OpenClaim.holds_of_wide 5 Try.f5 rfl rfl rfl rfl rfl rfl rfl ⟨rfl, rfl, rfl, rfl, rfl⟩ rfl rfl rfl rfl rfl (by kernel_rfl) Try.func5 (facts_FnExactSizeShare _ rfl ioL)
    (of_decide_eq_true (by kernel_rfl)) (by unfold Func.isWrapper; first | (rw [if_pos (by decide +kernel)]; kernel_rfl) | (rw [if_neg (by decide +kernel)]; exact ⟨rfl, rfl⟩))
    (fun os started H enc _ => lifted_l_FnExactSizeShare os started H enc)
end Go.Proofs.Ytmfamcaiimhaeaa
