/-
  FnExactPrefaceExpand: for every input the law returns true, and each argument reads afterwards as it read before. No conditions.
-/
import Derived.Test.YthongcikinnjlaaRows
import Derived.Test.YthongcikinnjlaaT
import Derived.Test.YthongcikinnjlaaSa
import Derived.Test.YthongcikinnjlaaSg
import Derived.Test.YthongcikinnjlaaSh
set_option linter.unusedVariables false
set_option linter.unusedSimpArgs false
open Go Go.Ax Go.Mx Go.ChangeShapes Go.WideShapes Go.RowKit Go.ChangeAt
namespace Go.Proofs.Ythongcikinnjlaa
def V_l_FnExactPrefaceExpand : Prop :=
  ∀ (l0 : List Int) (l1 : List (Int × Int × Int)), (↑(List.length l0) : Int) ≤ 9223372036854775807 ∧ (↑(List.length l1) : Int) ≤ 9223372036854775807 → (1048576 < (↑(List.length l0) : Int) → true = true) ∧ (¬1048576 < (↑(List.length l0) : Int)
    → ((↑(List.length l1) : Int) ≤ 9223372036854775807 ∧ (0 : Int) ≤ 1048576 ∧ (1048576 : Int) ≤ 1000000000000000000) ∧ ∀ (n2 : Int), (n2 = if 1048576 - (↑(List.length l1) : Int) < 0 then -1 else 1048576 - (↑(List.length l1) : Int)) → (n2 < 0 → true = true) ∧
    (¬n2 < 0 → (↑(List.length l0) : Int) ≤ 1099511627776 ∧ ∀ (l3 : List Int), l3 = l0 → (↑(List.length l1) : Int) ≤ 1099511627776 ∧ ∀ (l4 : List (Int × Int × Int)), l4 = l1 → ((↑(List.length l3) : Int) ≤ 10000000 ∧ (↑(List.length l4) : Int) ≤
    10000000) ∧ ∀ (l5 : List Int), (true = Option.isSome (pexpD l3 l4) ∧ l5 = Option.getD (pexpD l3 l4) [] → (↑(List.length l0) : Int) ≤ 1099511627776 ∧ ∀ (l6 : List Int), l6 = l0 → (↑(List.length l1) : Int) ≤ 1099511627776 ∧ ∀ (l7 : List (Int ×
    Int × Int)), l7 = l1 → ((↑(List.length l6) : Int) ≤ 10000000 ∧ (↑(List.length l7) : Int) ≤ 10000000) ∧ ∀ (l8 : List Int), (true = Option.isSome (pexpD l6 l7) ∧ l8 = Option.getD (pexpD l6 l7) [] → ((↑(List.length l8) : Int) ≤ 1099511627776 ∧
    (↑(List.length l5) : Int) ≤ 1099511627776) ∧ (true = decide (l8 = l5) → (↑(List.length l0) : Int) ≤ 1099511627776 ∧ ∀ (l9 : List Int), l9 = l0 → ((↑(List.length l6) : Int) ≤ 1099511627776 ∧ (↑(List.length l9) : Int) ≤ 1099511627776) ∧ (true
    = decide (l6 = l9) → (↑(List.length l1) : Int) ≤ 1099511627776 ∧ ∀ (l10 : List (Int × Int × Int)), l10 = l1 → ((↑(List.length l7) : Int) ≤ 1099511627776 ∧ (↑(List.length l10) : Int) ≤ 1099511627776) ∧ (true = decide (l7 = l10) →
    ((↑(List.length l6) : Int) ≤ 1099511627776 ∧ (0 : Int) ≤ 1 ∧ (1 : Int) ≤ 1000000000000000) ∧ ∀ (l11 : List Int) (n12 : Int), n12 = 1 + (↑(List.length l6) : Int) ∧ l11 = marks 1 (List.length l6) → ((↑(List.length l7) : Int) ≤ 1099511627776 ∧ 0 ≤ n12 ∧ n12 ≤
    1000000000000000) ∧ ∀ (l13 : List (Int × Int × Int)) (n14 : Int), n14 = n12 + 3 * (↑(List.length l7) : Int) ∧ l13 = marks3 n12 (List.length l7) → (n14 < 0 → false = true) ∧ (¬n14 < 0 → ((↑(List.length l8) : Int) ≤ 1099511627776 ∧
    (↑(List.length l5) : Int) ≤ 1099511627776) ∧ (true = decide (l8 = l5) → ((↑(List.length l8) : Int) ≤ 1099511627776 ∧ (0 : Int) ≤ 1 ∧ (1 : Int) ≤ 1000000000000000) ∧ ∀ (l15 : List Int) (n16 : Int), n16 = 1 + (↑(List.length l8) : Int) ∧ l15 = marks 1
    (List.length l8) → ((↑(List.length l15) : Int) ≤ 1099511627776 ∧ (0 : Int) ≤ 1 ∧ (1 : Int) ≤ 1000000000000000) ∧ ∀ (n17 : Int), (n17 = if l15 = marks 1 (List.length l15) then 1 + (↑(List.length l15) : Int) else -1) → (n17 < 0 → false = true) ∧ (¬n17 < 0 →
    (n17 ≠ n16 → false = true) ∧ (¬n17 ≠ n16 → (↑(List.length l0) : Int) ≤ 1099511627776 ∧ ∀ (l18 : List Int), l18 = l0 → (↑(List.length l1) : Int) ≤ 1099511627776 ∧ ∀ (l19 : List (Int × Int × Int)), l19 = l1 → ((↑(List.length l18) : Int) ≤
    10000000 ∧ (↑(List.length l19) : Int) ≤ 10000000) ∧ ∀ (l20 : List Int), (true = Option.isSome (pexpD l18 l19) ∧ l20 = Option.getD (pexpD l18 l19) [] → ((↑(List.length l20) : Int) ≤ 1099511627776 ∧ (↑(List.length l5) : Int) ≤ 1099511627776) ∧
    (true = decide (l20 = l5) → ((↑(List.length l15) : Int) ≤ 1099511627776 ∧ (0 : Int) ≤ 1 ∧ (1 : Int) ≤ 1000000000000000) ∧ ∀ (n21 : Int), (n21 = if l15 = marks 1 (List.length l15) then 1 + (↑(List.length l15) : Int) else -1) → (n21 < 0 → false = true) ∧
    (¬n21 < 0 → (n21 ≠ n16 → false = true) ∧ (¬n21 ≠ n16 → true = true))) ∧ (false = decide (l20 = l5) → false = true)) ∧ (false = Option.isSome (pexpD l18 l19) ∧ l20 = Option.getD (pexpD l18 l19) [] → ((↑(List.length l20) : Int) ≤ 1099511627776
    ∧ (↑(List.length l5) : Int) ≤ 1099511627776) ∧ (true = decide (l20 = l5) → false = true) ∧ (false = decide (l20 = l5) → false = true))))) ∧ (false = decide (l8 = l5) → false = true))) ∧ (false = decide (l7 = l10) → false = true)) ∧ (false =
    decide (l6 = l9) → false = true)) ∧ (false = decide (l8 = l5) → false = true)) ∧ (false = Option.isSome (pexpD l6 l7) ∧ l8 = Option.getD (pexpD l6 l7) [] → ((↑(List.length l8) : Int) ≤ 1099511627776 ∧ (↑(List.length l5) : Int) ≤
    1099511627776) ∧ (true = decide (l8 = l5) → false = true) ∧ (false = decide (l8 = l5) → false = true))) ∧ (false = Option.isSome (pexpD l3 l4) ∧ l5 = Option.getD (pexpD l3 l4) [] → (↑(List.length l0) : Int) ≤ 1099511627776 ∧ ∀ (l22 : List
    Int), l22 = l0 → (↑(List.length l1) : Int) ≤ 1099511627776 ∧ ∀ (l23 : List (Int × Int × Int)), l23 = l1 → ((↑(List.length l22) : Int) ≤ 10000000 ∧ (↑(List.length l23) : Int) ≤ 10000000) ∧ ∀ (l24 : List Int), (true = Option.isSome (pexpD l22
    l23) ∧ l24 = Option.getD (pexpD l22 l23) [] → ((↑(List.length l24) : Int) ≤ 1099511627776 ∧ (↑(List.length l5) : Int) ≤ 1099511627776) ∧ (true = decide (l24 = l5) → false = true) ∧ (false = decide (l24 = l5) → false = true)) ∧ (false =
    Option.isSome (pexpD l22 l23) ∧ l24 = Option.getD (pexpD l22 l23) [] → ((↑(List.length l24) : Int) ≤ 1099511627776 ∧ (↑(List.length l5) : Int) ≤ 1099511627776) ∧ (true = decide (l24 = l5) → (↑(List.length l0) : Int) ≤ 1099511627776 ∧ ∀ (l25
    : List Int), l25 = l0 → ((↑(List.length l22) : Int) ≤ 1099511627776 ∧ (↑(List.length l25) : Int) ≤ 1099511627776) ∧ (true = decide (l22 = l25) → (↑(List.length l1) : Int) ≤ 1099511627776 ∧ ∀ (l26 : List (Int × Int × Int)), l26 = l1 →
    ((↑(List.length l23) : Int) ≤ 1099511627776 ∧ (↑(List.length l26) : Int) ≤ 1099511627776) ∧ (true = decide (l23 = l26) → ((↑(List.length l22) : Int) ≤ 1099511627776 ∧ (0 : Int) ≤ 1 ∧ (1 : Int) ≤ 1000000000000000) ∧ ∀ (l27 : List Int) (n28 : Int), n28 = 1 +
    (↑(List.length l22) : Int) ∧ l27 = marks 1 (List.length l22) → ((↑(List.length l23) : Int) ≤ 1099511627776 ∧ 0 ≤ n28 ∧ n28 ≤ 1000000000000000) ∧ ∀ (l29 : List (Int × Int × Int)) (n30 : Int), n30 = n28 + 3 * (↑(List.length l23) : Int) ∧ l29 =
    marks3 n28 (List.length l23) → (n30 < 0 → false = true) ∧ (¬n30 < 0 → ((↑(List.length l24) : Int) ≤ 1099511627776 ∧ (↑(List.length l5) : Int) ≤ 1099511627776) ∧ (true = decide (l24 = l5) → ((↑(List.length l24) : Int) ≤ 1099511627776 ∧ (0 : Int) ≤ 1
    ∧ (1 : Int) ≤ 1000000000000000) ∧ ∀ (l31 : List Int) (n32 : Int), n32 = 1 + (↑(List.length l24) : Int) ∧ l31 = marks 1 (List.length l24) → ((↑(List.length l31) : Int) ≤ 1099511627776 ∧ (0 : Int) ≤ 1 ∧ (1 : Int) ≤ 1000000000000000) ∧ ∀ (n33 : Int), (n33 = if l31 =
    marks 1 (List.length l31) then 1 + (↑(List.length l31) : Int) else -1) → (n33 < 0 → false = true) ∧ (¬n33 < 0 → (n33 ≠ n32 → false = true) ∧ (¬n33 ≠ n32 → (↑(List.length l0) : Int) ≤ 1099511627776 ∧ ∀ (l34 : List Int), l34 = l0 →
    (↑(List.length l1) : Int) ≤ 1099511627776 ∧ ∀ (l35 : List (Int × Int × Int)), l35 = l1 → ((↑(List.length l34) : Int) ≤ 10000000 ∧ (↑(List.length l35) : Int) ≤ 10000000) ∧ ∀ (l36 : List Int), (true = Option.isSome (pexpD l34 l35) ∧ l36 =
    Option.getD (pexpD l34 l35) [] → ((↑(List.length l36) : Int) ≤ 1099511627776 ∧ (↑(List.length l5) : Int) ≤ 1099511627776) ∧ (true = decide (l36 = l5) → false = true) ∧ (false = decide (l36 = l5) → false = true)) ∧ (false = Option.isSome
    (pexpD l34 l35) ∧ l36 = Option.getD (pexpD l34 l35) [] → ((↑(List.length l36) : Int) ≤ 1099511627776 ∧ (↑(List.length l5) : Int) ≤ 1099511627776) ∧ (true = decide (l36 = l5) → ((↑(List.length l31) : Int) ≤ 1099511627776 ∧ (0 : Int) ≤ 1 ∧ (1 : Int) ≤ 1000000000000000) ∧ ∀ (n37 : Int), (n37 = if l31 = marks 1 (List.length l31) then 1 + (↑(List.length l31) : Int) else -1) → (n37 < 0 → false = true) ∧ (¬n37 < 0 → (n37 ≠ n32 → false = true) ∧ (¬n37 ≠ n32 → true = true))) ∧ (false = decide
    (l36 = l5) → false = true))))) ∧ (false = decide (l24 = l5) → false = true))) ∧ (false = decide (l23 = l26) → false = true)) ∧ (false = decide (l22 = l25) → false = true)) ∧ (false = decide (l24 = l5) → false = true)))))
theorem v_l_FnExactPrefaceExpand : V_l_FnExactPrefaceExpand := by
  unfold V_l_FnExactPrefaceExpand
  rintro a b ⟨ha, hb⟩
  have hd := pexpD_len a b
  repeat' (first | apply And.intro | (rintro _ rfl) | (rintro _ _ ⟨rfl, rfl⟩) | (intro (h : _ = _ ∧ _ = _); obtain ⟨_, rfl⟩ := h) | (intro _ (h : _ = _ ∧ _ ≤ _); obtain ⟨rfl, _⟩ := h) | intro _)
  all_goals (first | omega | with_reducible rfl | (simp only [marks_len, marks3_len]; omega) | (rename_i h; simp [marks_len, marks3_len] at h; done) | (rename_i h; simp [marks_len, marks3_len] at h; omega) | grind)
def S_l_FnExactPrefaceExpand : FSpec where
  args := [.sc (.sl .int), .sc (.sl .r3)]
  outs := [.sc .bool]
  pre := fun a => match a with
    | [.sc (.sl .int aPreface), .sc (.sl .r3 aTokens)] => (((aPreface).length : Nat) : Int) ≤ 9223372036854775807 ∧ (((aTokens).length : Nat) : Int) ≤ 9223372036854775807
    | _ => False
  post := fun a r => match a, r with
    | [.sc (.sl .int aPreface), .sc (.sl .r3 aTokens)], [.sc (.bool r)] => r = true
    | _, _ => False
  kept := false
theorem m_l_FnExactPrefaceExpand : Meets Try.prog 14 S_l_FnExactPrefaceExpand :=
  meets tok mixed Try.func14 (by kernel_rfl) (l := [(34, S_l_toIntS), (37, S_l_eqIntS), (41, S_l_markIntS), (49, S_l_heldIntS), (54, S_l_eqTokenS), (55, S_l_markTokenS), (57, S_l_szTokenS), (58, S_s_PrefaceExpand), (59, S_l_toTokenS), (60, S_i_PrefaceExpand)]) ⟨m_l_toIntS, m_l_eqIntS, m_l_markIntS, m_l_heldIntS, m_l_eqTokenS, m_l_markTokenS, m_l_szTokenS, m_s_PrefaceExpand, m_l_toTokenS, m_i_PrefaceExpand, trivial⟩ (ann := []) v_l_FnExactPrefaceExpand (by kernel_rfl)
theorem a_l_FnExactPrefaceExpand : LawOf Try.prog Try.f14.params.toList S_l_FnExactPrefaceExpand where
  args := by kernel_rfl
  outs := rfl
  pre := AKs.all_iff.1 (show AKs.all S_l_FnExactPrefaceExpand.args (fun ds => bnds ds → S_l_FnExactPrefaceExpand.pre ds) from fun x0 x1 h => ⟨h.1, h.2.1⟩)
  post := AKs.all_iff.1 (show AKs.all S_l_FnExactPrefaceExpand.args (fun ds => ∀ b, S_l_FnExactPrefaceExpand.post ds [.sc (.bool b)] → b = true) from fun x0 x1 _ h => h)
set_option maxRecDepth 100000 in
theorem lifted_l_FnExactPrefaceExpand (os : Os) (started : os.Started) (H : Type) (enc : TypeId × Value → H) :
    ReturnsInHanded {} Try.checked os 14 .any (Rows.fnExactPrefaceExpandSpec.pre6 enc Try.prog Try.f14 Rows.fnExactPrefaceExpandRow.domain false) (Rows.fnExactPrefaceExpandSpec.post enc Try.prog Try.f14 false true false false) :=
  law_lifted (C := Try.checked) (F := S_l_FnExactPrefaceExpand) (by kernel_rfl) started (by kernel_rfl) Try.func14
    (ChangeSpec.witness6 (enc := enc) (C := Try.checked) false ⟨#[], #[.slice none 0 0, .slice none 0 0], []⟩ 8 (by kernel_rfl) (by kernel_rfl) (by kernel_rfl) (by kernel_rfl))
    m_l_FnExactPrefaceExpand a_l_FnExactPrefaceExpand (by kernel_rfl) (of_decide_eq_true (by kernel_rfl)) rfl (fun ds h => by match ds, h with | [d0, d1], _ => rfl) (by kernel_rfl) Try.underlying4
theorem facts_FnExactPrefaceExpand : ∀ P : Program, P = Try.prog → P.initOrder.toList = ioNums.map Char.ofNat → joinedFacts P 14 Try.f14 Rows.fnExactPrefaceExpandSpec Rows.fnExactPrefaceExpandRow = true := by
  intro P hP h
  have h1 := io1 P hP h
  have h2 := io2 P hP h
  have h3 := io3 P hP h
  unfold joinedFacts
  rw [h1, h2, h3]
  subst hP
  show (_ : Bool) = true
  kernel_rfl
theorem proved_FnExactPrefaceExpand : Rows.FnExactPrefaceExpandSaid :=
  OpenClaim.holds_of_wide 14 Try.f14 rfl rfl rfl rfl rfl rfl rfl ⟨rfl, rfl, rfl, rfl, rfl⟩ rfl rfl rfl rfl rfl (by kernel_rfl) Try.func14 (facts_FnExactPrefaceExpand _ rfl ioL)
    (of_decide_eq_true (by kernel_rfl)) (by unfold Func.isWrapper; first | (rw [if_pos (by decide +kernel)]; kernel_rfl) | (rw [if_neg (by decide +kernel)]; exact ⟨rfl, rfl⟩))
    (fun os started H enc _ => lifted_l_FnExactPrefaceExpand os started H enc)
end Go.Proofs.Ythongcikinnjlaa
