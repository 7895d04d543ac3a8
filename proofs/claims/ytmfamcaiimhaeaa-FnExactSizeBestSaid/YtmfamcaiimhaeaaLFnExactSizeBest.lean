/-
  FnExactSizeBest: for every input the law returns true, and each argument reads afterwards as it read before. No conditions.
-/
import Derived.Test.YtmfamcaiimhaeaaRows
import Derived.Test.YtmfamcaiimhaeaaT
import Derived.Test.YtmfamcaiimhaeaaSa
import Derived.Test.YtmfamcaiimhaeaaSg
import Derived.Test.YtmfamcaiimhaeaaSj
import Derived.Test.YtmfamcaiimhaeaaSk
import Derived.Test.YtmfamcaiimhaeaaSl
import Derived.Test.YtmfamcaiimhaeaaSm
import Derived.Test.YtmfamcaiimhaeaaSn
import Derived.Test.YtmfamcaiimhaeaaSo
import Derived.Test.YtmfamcaiimhaeaaSp
import Derived.Test.YtmfamcaiimhaeaaSq
set_option linter.unusedVariables false
set_option linter.unusedSimpArgs false
open Go Go.Ax Go.Mx Go.ChangeShapes Go.WideShapes Go.RowKit Go.ChangeAt
namespace Go.Proofs.Ytmfamcaiimhaeaa
def V_l_FnExactSizeBest : Prop :=
  ∀ (l0 : List Int), (↑(List.length l0) : Int) ≤ (9223372036854775807 : Int) → (1048576 < (↑(List.length l0) : Int) → true = true) ∧ (¬1048576 < (↑(List.length l0) : Int) → (↑(List.length l0) : Int) ≤ 1099511627776 ∧ ∀ (l1 : List Int), l1 = l0 →
    (↑(List.length l1) : Int) ≤ 1099511627776 ∧ ∀ (n2 : Int), n2 = bestD l1 → (↑(List.length l0) : Int) ≤ 1099511627776 ∧ ∀ (l3 : List Int), l3 = l0 → (↑(List.length l3) : Int) ≤ 1099511627776 ∧ ∀ (n4 : Int), n4 = bestD l3 → (n4 ≠ n2 → false =
    true) ∧ (¬n4 ≠ n2 → (↑(List.length l0) : Int) ≤ 1099511627776 ∧ ∀ (l5 : List Int), l5 = l0 → ((↑(List.length l3) : Int) ≤ 1099511627776 ∧ (↑(List.length l5) : Int) ≤ 1099511627776) ∧ (true = decide (l3 = l5) → true = true) ∧ (false = decide
    (l3 = l5) → false = true)))
theorem v_l_FnExactSizeBest : V_l_FnExactSizeBest := by
  unfold V_l_FnExactSizeBest
  intro a ha
  clear ha
  repeat' (first | apply And.intro | (rintro _ rfl) | (rintro _ _ ⟨rfl, rfl⟩) | (intro (h : _ = _ ∧ _ = _); obtain ⟨_, rfl⟩ := h) | (intro _ (h : _ = _ ∧ _ ≤ _); obtain ⟨rfl, _⟩ := h) | intro _)
  all_goals (first | omega | with_reducible rfl | (simp only [marks_len, marks3_len]; omega) | (rename_i h; simp [marks_len, marks3_len] at h; done) | (rename_i h; simp [marks_len, marks3_len] at h; omega) | grind)
def S_l_FnExactSizeBest : FSpec where
  args := [.sc (.sl .int)]
  outs := [.sc .bool]
  pre := fun a => match a with
    | [.sc (.sl .int aList)] => (((aList).length : Nat) : Int) ≤ 9223372036854775807
    | _ => False
  post := fun a r => match a, r with
    | [.sc (.sl .int aList)], [.sc (.bool r)] => r = true
    | _, _ => False
  kept := false
theorem m_l_FnExactSizeBest : Meets Try.prog 4 S_l_FnExactSizeBest :=
  meets tok mixed Try.func4 (by kernel_rfl) (l := [(29, S_s_SizeBest), (30, S_l_toIntS), (31, S_i_SizeBest), (32, S_l_eqIntS)]) ⟨m_s_SizeBest, m_l_toIntS, m_i_SizeBest, m_l_eqIntS, trivial⟩ (ann := []) v_l_FnExactSizeBest (by kernel_rfl)
theorem a_l_FnExactSizeBest : LawOf Try.prog Try.f4.params.toList S_l_FnExactSizeBest where
  args := by kernel_rfl
  outs := rfl
  pre := AKs.all_iff.1 (show AKs.all S_l_FnExactSizeBest.args (fun ds => bnds ds → S_l_FnExactSizeBest.pre ds) from fun x0 h => h.1)
  post := AKs.all_iff.1 (show AKs.all S_l_FnExactSizeBest.args (fun ds => ∀ b, S_l_FnExactSizeBest.post ds [.sc (.bool b)] → b = true) from fun x0 _ h => h)
set_option maxRecDepth 100000 in
theorem lifted_l_FnExactSizeBest (os : Os) (started : os.Started) (H : Type) (enc : TypeId × Value → H) :
    ReturnsInHanded {} Try.checked os 4 .any (Rows.fnExactSizeBestSpec.pre6 enc Try.prog Try.f4 Rows.fnExactSizeBestRow.domain false) (Rows.fnExactSizeBestSpec.post enc Try.prog Try.f4 false true false false) :=
  law_lifted (C := Try.checked) (F := S_l_FnExactSizeBest) (by kernel_rfl) started (by kernel_rfl) Try.func4
    (ChangeSpec.witness6 (enc := enc) (C := Try.checked) false ⟨#[], #[.slice none 0 0], []⟩ 8 (by kernel_rfl) (by kernel_rfl) (by kernel_rfl) (by kernel_rfl))
    m_l_FnExactSizeBest a_l_FnExactSizeBest (by kernel_rfl) (of_decide_eq_true (by kernel_rfl)) rfl (fun ds h => by match ds, h with | [d0], _ => rfl) (by kernel_rfl) Try.underlying4
theorem facts_FnExactSizeBest : ∀ P : Program, P = Try.prog → P.initOrder.toList = ioNums.map Char.ofNat → joinedFacts P 4 Try.f4 Rows.fnExactSizeBestSpec Rows.fnExactSizeBestRow = true := by
  intro P hP h
  have h1 := io1 P hP h
  have h2 := io2 P hP h
  have h3 := io3 P hP h
  unfold joinedFacts
  rw [h1, h2, h3]
  subst hP
  show (_ : Bool) = true
  kernel_rfl
theorem proved_FnExactSizeBest : Rows.FnExactSizeBestSaid :=
  OpenClaim.holds_of_wide 4 Try.f4 rfl rfl rfl rfl rfl rfl rfl ⟨rfl, rfl, rfl, rfl, rfl⟩ rfl rfl rfl rfl rfl (by kernel_rfl) Try.func4 (facts_FnExactSizeBest _ rfl ioL)
    (of_decide_eq_true (by kernel_rfl)) (by unfold Func.isWrapper; first | (rw [if_pos (by decide +kernel)]; kernel_rfl) | (rw [if_neg (by decide +kernel)]; exact ⟨rfl, rfl⟩))
    (fun os started H enc _ => lifted_l_FnExactSizeBest os started H enc)
end Go.Proofs.Ytmfamcaiimhaeaa
