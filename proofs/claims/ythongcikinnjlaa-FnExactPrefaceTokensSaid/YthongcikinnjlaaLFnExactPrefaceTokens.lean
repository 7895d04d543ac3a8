/-
  FnExactPrefaceTokens: for every input the law returns true, and each argument reads afterwards as it read before. No conditions.
-/
import Derived.Test.YthongcikinnjlaaRows
import Derived.Test.YthongcikinnjlaaT
import Derived.Test.YthongcikinnjlaaSa
import Derived.Test.YthongcikinnjlaaSg
import Derived.Test.YthongcikinnjlaaSh
set_option linter.unusedVariables false
set_option linter.unusedSimpArgs false
open Go Go.Ax Go.Mx Go.ChangeShapes Go.WideShapes Go.RowKit Go.ChangeAt
namespace Go.Proofs.Ythongcikinnjlaa
def V_l_FnExactPrefaceTokens : Prop :=
  ∀ (l0 l1 : List Int), (↑(List.length l0) : Int) ≤ 9223372036854775807 ∧ (↑(List.length l1) : Int) ≤ 9223372036854775807 → (1048576 < (↑(List.length l0) : Int) → true = true) ∧ (¬1048576 < (↑(List.length l0) : Int) → (1048576 < (↑(List.length
    l1) : Int) → true = true) ∧ (¬1048576 < (↑(List.length l1) : Int) → (↑(List.length l0) : Int) ≤ 1099511627776 ∧ ∀ (l2 : List Int), l2 = l0 → (↑(List.length l1) : Int) ≤ 1099511627776 ∧ ∀ (l3 : List Int), l3 = l1 → ((↑(List.length l2) : Int)
    ≤ 10000000 ∧ (↑(List.length l3) : Int) ≤ 10000000) ∧ ∀ (l4 : List (Int × Int × Int)), l4 = prefD l2 l3 ∧ (↑(List.length l4) : Int) ≤ 40 → (↑(List.length l0) : Int) ≤ 1099511627776 ∧ ∀ (l5 : List Int), l5 = l0 → (↑(List.length l1) : Int) ≤
    1099511627776 ∧ ∀ (l6 : List Int), l6 = l1 → ((↑(List.length l5) : Int) ≤ 10000000 ∧ (↑(List.length l6) : Int) ≤ 10000000) ∧ ∀ (l7 : List (Int × Int × Int)), l7 = prefD l5 l6 ∧ (↑(List.length l7) : Int) ≤ 40 → ((↑(List.length l7) : Int) ≤
    1099511627776 ∧ (↑(List.length l4) : Int) ≤ 1099511627776) ∧ (true = decide (l7 = l4) → (↑(List.length l0) : Int) ≤ 1099511627776 ∧ ∀ (l8 : List Int), l8 = l0 → ((↑(List.length l5) : Int) ≤ 1099511627776 ∧ (↑(List.length l8) : Int) ≤
    1099511627776) ∧ (true = decide (l5 = l8) → (↑(List.length l1) : Int) ≤ 1099511627776 ∧ ∀ (l9 : List Int), l9 = l1 → ((↑(List.length l6) : Int) ≤ 1099511627776 ∧ (↑(List.length l9) : Int) ≤ 1099511627776) ∧ (true = decide (l6 = l9) →
    ((↑(List.length l5) : Int) ≤ 1099511627776 ∧ (0 : Int) ≤ 1 ∧ (1 : Int) ≤ 1000000000000000) ∧ ∀ (l10 : List Int) (n11 : Int), n11 = 1 + (↑(List.length l5) : Int) ∧ l10 = marks 1 (List.length l5) → ((↑(List.length l6) : Int) ≤ 1099511627776 ∧ 0 ≤ n11 ∧ n11 ≤
    1000000000000000) ∧ ∀ (l12 : List Int) (n13 : Int), n13 = n11 + (↑(List.length l6) : Int) ∧ l12 = marks n11 (List.length l6) → (n13 < 0 → false = true) ∧ (¬n13 < 0 → ((↑(List.length l7) : Int) ≤ 1099511627776 ∧ (↑(List.length l4) : Int) ≤
    1099511627776) ∧ (true = decide (l7 = l4) → ((↑(List.length l7) : Int) ≤ 1099511627776 ∧ (0 : Int) ≤ 1 ∧ (1 : Int) ≤ 1000000000000000) ∧ ∀ (l14 : List (Int × Int × Int)) (n15 : Int), n15 = 1 + 3 * (↑(List.length l7) : Int) ∧ l14 = marks3 1 (List.length l7)
    → ((↑(List.length l14) : Int) ≤ 1099511627776 ∧ (0 : Int) ≤ 1 ∧ (1 : Int) ≤ 1000000000000000) ∧ ∀ (n16 : Int), (n16 = if l14 = marks3 1 (List.length l14) then 1 + 3 * (↑(List.length l14) : Int) else -1) → (n16 < 0 → false = true) ∧ (¬n16 < 0 → (n16 ≠ n15 →
    false = true) ∧ (¬n16 ≠ n15 → (↑(List.length l0) : Int) ≤ 1099511627776 ∧ ∀ (l17 : List Int), l17 = l0 → (↑(List.length l1) : Int) ≤ 1099511627776 ∧ ∀ (l18 : List Int), l18 = l1 → ((↑(List.length l17) : Int) ≤ 10000000 ∧ (↑(List.length l18)
    : Int) ≤ 10000000) ∧ ∀ (l19 : List (Int × Int × Int)), l19 = prefD l17 l18 ∧ (↑(List.length l19) : Int) ≤ 40 → ((↑(List.length l19) : Int) ≤ 1099511627776 ∧ (↑(List.length l4) : Int) ≤ 1099511627776) ∧ (true = decide (l19 = l4) →
    ((↑(List.length l14) : Int) ≤ 1099511627776 ∧ (0 : Int) ≤ 1 ∧ (1 : Int) ≤ 1000000000000000) ∧ ∀ (n20 : Int), (n20 = if l14 = marks3 1 (List.length l14) then 1 + 3 * (↑(List.length l14) : Int) else -1) → (n20 < 0 → false = true) ∧ (¬n20 < 0 → (n20 ≠ n15 →
    false = true) ∧ (¬n20 ≠ n15 → true = true))) ∧ (false = decide (l19 = l4) → false = true)))) ∧ (false = decide (l7 = l4) → false = true))) ∧ (false = decide (l6 = l9) → false = true)) ∧ (false = decide (l5 = l8) → false = true)) ∧ (false =
    decide (l7 = l4) → false = true)))
theorem v_l_FnExactPrefaceTokens : V_l_FnExactPrefaceTokens := by
  unfold V_l_FnExactPrefaceTokens
  rintro a b ⟨ha, hb⟩
  clear ha hb
  have hd := (prefD_len a b).2
  repeat' (first | apply And.intro | (rintro _ rfl) | (rintro _ _ ⟨rfl, rfl⟩) | (intro (h : _ = _ ∧ _ = _); obtain ⟨_, rfl⟩ := h) | (intro _ (h : _ = _ ∧ _ ≤ _); obtain ⟨rfl, _⟩ := h) | intro _)
  all_goals (first | omega | with_reducible rfl | (simp only [marks_len, marks3_len]; omega) | (rename_i h; simp [marks_len, marks3_len] at h; done) | (rename_i h; simp [marks_len, marks3_len] at h; omega) | grind)
def S_l_FnExactPrefaceTokens : FSpec where
  args := [.sc (.sl .int), .sc (.sl .int)]
  outs := [.sc .bool]
  pre := fun a => match a with
    | [.sc (.sl .int aPreface), .sc (.sl .int aList)] => (((aPreface).length : Nat) : Int) ≤ 9223372036854775807 ∧ (((aList).length : Nat) : Int) ≤ 9223372036854775807
    | _ => False
  post := fun a r => match a, r with
    | [.sc (.sl .int aPreface), .sc (.sl .int aList)], [.sc (.bool r)] => r = true
    | _, _ => False
  kept := false
theorem m_l_FnExactPrefaceTokens : Meets Try.prog 12 S_l_FnExactPrefaceTokens :=
  meets tok mixed Try.func12 (by kernel_rfl) (l := [(34, S_l_toIntS), (37, S_l_eqIntS), (41, S_l_markIntS), (52, S_s_PrefaceTokens), (53, S_i_PrefaceTokens), (54, S_l_eqTokenS), (55, S_l_markTokenS), (56, S_l_heldTokenS)]) ⟨m_l_toIntS, m_l_eqIntS, m_l_markIntS, m_s_PrefaceTokens, m_i_PrefaceTokens, m_l_eqTokenS, m_l_markTokenS, m_l_heldTokenS, trivial⟩ (ann := []) v_l_FnExactPrefaceTokens (by kernel_rfl)
theorem a_l_FnExactPrefaceTokens : LawOf Try.prog Try.f12.params.toList S_l_FnExactPrefaceTokens where
  args := by kernel_rfl
  outs := rfl
  pre := AKs.all_iff.1 (show AKs.all S_l_FnExactPrefaceTokens.args (fun ds => bnds ds → S_l_FnExactPrefaceTokens.pre ds) from fun x0 x1 h => ⟨h.1, h.2.1⟩)
  post := AKs.all_iff.1 (show AKs.all S_l_FnExactPrefaceTokens.args (fun ds => ∀ b, S_l_FnExactPrefaceTokens.post ds [.sc (.bool b)] → b = true) from fun x0 x1 _ h => h)
set_option maxRecDepth 100000 in
theorem lifted_l_FnExactPrefaceTokens (os : Os) (started : os.Started) (H : Type) (enc : TypeId × Value → H) :
    ReturnsInHanded {} Try.checked os 12 .any (Rows.fnExactPrefaceTokensSpec.pre6 enc Try.prog Try.f12 Rows.fnExactPrefaceTokensRow.domain false) (Rows.fnExactPrefaceTokensSpec.post enc Try.prog Try.f12 false true false false) :=
  law_lifted (C := Try.checked) (F := S_l_FnExactPrefaceTokens) (by kernel_rfl) started (by kernel_rfl) Try.func12
    (ChangeSpec.witness6 (enc := enc) (C := Try.checked) false ⟨#[], #[.slice none 0 0, .slice none 0 0], []⟩ 8 (by kernel_rfl) (by kernel_rfl) (by kernel_rfl) (by kernel_rfl))
    m_l_FnExactPrefaceTokens a_l_FnExactPrefaceTokens (by kernel_rfl) (of_decide_eq_true (by kernel_rfl)) rfl (fun ds h => by match ds, h with | [d0, d1], _ => rfl) (by kernel_rfl) Try.underlying4
theorem facts_FnExactPrefaceTokens : ∀ P : Program, P = Try.prog → P.initOrder.toList = ioNums.map Char.ofNat → joinedFacts P 12 Try.f12 Rows.fnExactPrefaceTokensSpec Rows.fnExactPrefaceTokensRow = true := by
  intro P hP h
  have h1 := io1 P hP h
  have h2 := io2 P hP h
  have h3 := io3 P hP h
  unfold joinedFacts
  rw [h1, h2, h3]
  subst hP
  show (_ : Bool) = true
  kernel_rfl
theorem proved_FnExactPrefaceTokens : Rows.FnExactPrefaceTokensSaid :=
  OpenClaim.holds_of_wide 12 Try.f12 rfl rfl rfl rfl rfl rfl rfl ⟨rfl, rfl, rfl, rfl, rfl⟩ rfl rfl rfl rfl rfl (by kernel_rfl) Try.func12 (facts_FnExactPrefaceTokens _ rfl ioL)
    (of_decide_eq_true (by kernel_rfl)) (by unfold Func.isWrapper; first | (rw [if_pos (by decide +kernel)]; kernel_rfl) | (rw [if_neg (by decide +kernel)]; exact ⟨rfl, rfl⟩))
    (fun os started H enc _ => lifted_l_FnExactPrefaceTokens os started H enc)
end Go.Proofs.Ythongcikinnjlaa
