/-
  FnExactDeltaCopied: for every input the law returns true, and each argument reads afterwards as it read before. No conditions.
-/
import Derived.Test.YthongcikinnjlaaRows
import Derived.Test.YthongcikinnjlaaT
import Derived.Test.YthongcikinnjlaaSa
import Derived.Test.YthongcikinnjlaaSc
import Derived.Test.YthongcikinnjlaaSe
set_option linter.unusedVariables false
set_option linter.unusedSimpArgs false
open Go Go.Ax Go.Mx Go.ChangeShapes Go.WideShapes Go.RowKit Go.ChangeAt
namespace Go.Proofs.Ythongcikinnjlaa
def V_l_FnExactDeltaCopied : Prop :=
  ∀ (l0 : List Int) (l1 : List (Int × Int × Int)), (↑(List.length l0) : Int) ≤ 9223372036854775807 ∧ (↑(List.length l1) : Int) ≤ 9223372036854775807 → (1048576 < (↑(List.length l0) : Int) → true = true) ∧ (¬1048576 < (↑(List.length l0) : Int)
    → ((↑(List.length l1) : Int) ≤ 9223372036854775807 ∧ (0 : Int) ≤ 1048576 ∧ (1048576 : Int) ≤ 1000000000000000000) ∧ ∀ (n2 : Int), (n2 = if 1048576 - (↑(List.length l1) : Int) < 0 then -1 else 1048576 - (↑(List.length l1) : Int)) → (n2 < 0 → true = true) ∧
    (¬n2 < 0 → (↑(List.length l0) : Int) ≤ 1099511627776 ∧ ∀ (l3 : List Int), l3 = l0 → (↑(List.length l1) : Int) ≤ 1099511627776 ∧ ∀ (l4 : List (Int × Int × Int)), l4 = l1 → ((↑(List.length l3) : Int) ≤ 1099511627776 ∧ (↑(List.length l4) : Int)
    ≤ 1099511627776) ∧ ∀ (n5 : Int), n5 = copiedD l3 l4 → (↑(List.length l0) : Int) ≤ 1099511627776 ∧ ∀ (l6 : List Int), l6 = l0 → (↑(List.length l1) : Int) ≤ 1099511627776 ∧ ∀ (l7 : List (Int × Int × Int)), l7 = l1 → ((↑(List.length l6) : Int)
    ≤ 1099511627776 ∧ (↑(List.length l7) : Int) ≤ 1099511627776) ∧ ∀ (n8 : Int), n8 = copiedD l6 l7 → (n8 ≠ n5 → false = true) ∧ (¬n8 ≠ n5 → (↑(List.length l0) : Int) ≤ 1099511627776 ∧ ∀ (l9 : List Int), l9 = l0 → ((↑(List.length l6) : Int) ≤
    1099511627776 ∧ (↑(List.length l9) : Int) ≤ 1099511627776) ∧ (true = decide (l6 = l9) → (↑(List.length l1) : Int) ≤ 1099511627776 ∧ ∀ (l10 : List (Int × Int × Int)), l10 = l1 → ((↑(List.length l7) : Int) ≤ 1099511627776 ∧ (↑(List.length l10)
    : Int) ≤ 1099511627776) ∧ (true = decide (l7 = l10) → true = true) ∧ (false = decide (l7 = l10) → false = true)) ∧ (false = decide (l6 = l9) → false = true))))
theorem v_l_FnExactDeltaCopied : V_l_FnExactDeltaCopied := by
  unfold V_l_FnExactDeltaCopied
  rintro a b ⟨ha, hb⟩
  repeat' (first | apply And.intro | (rintro _ rfl) | (rintro _ _ ⟨rfl, rfl⟩) | (intro (h : _ = _ ∧ _ = _); obtain ⟨_, rfl⟩ := h) | (intro _ (h : _ = _ ∧ _ ≤ _); obtain ⟨rfl, _⟩ := h) | intro _)
  all_goals (first | omega | with_reducible rfl | (simp only [marks_len, marks3_len]; omega) | (rename_i h; simp [marks_len, marks3_len] at h; done) | (rename_i h; simp [marks_len, marks3_len] at h; omega) | grind)
def S_l_FnExactDeltaCopied : FSpec where
  args := [.sc (.sl .int), .sc (.sl .r3)]
  outs := [.sc .bool]
  pre := fun a => match a with
    | [.sc (.sl .int aOld), .sc (.sl .r3 aPieces)] => (((aOld).length : Nat) : Int) ≤ 9223372036854775807 ∧ (((aPieces).length : Nat) : Int) ≤ 9223372036854775807
    | _ => False
  post := fun a r => match a, r with
    | [.sc (.sl .int aOld), .sc (.sl .r3 aPieces)], [.sc (.bool r)] => r = true
    | _, _ => False
  kept := false
theorem m_l_FnExactDeltaCopied : Meets Try.prog 5 S_l_FnExactDeltaCopied :=
  meets tok mixed Try.func5 (by kernel_rfl) (l := [(32, S_l_szPieceS), (33, S_s_DeltaCopied), (34, S_l_toIntS), (35, S_l_toPieceS), (36, S_i_DeltaCopied), (37, S_l_eqIntS), (38, S_l_eqPieceS)]) ⟨m_l_szPieceS, m_s_DeltaCopied, m_l_toIntS, m_l_toPieceS, m_i_DeltaCopied, m_l_eqIntS, m_l_eqPieceS, trivial⟩ (ann := []) v_l_FnExactDeltaCopied (by kernel_rfl)
theorem a_l_FnExactDeltaCopied : LawOf Try.prog Try.f5.params.toList S_l_FnExactDeltaCopied where
  args := by kernel_rfl
  outs := rfl
  pre := AKs.all_iff.1 (show AKs.all S_l_FnExactDeltaCopied.args (fun ds => bnds ds → S_l_FnExactDeltaCopied.pre ds) from fun x0 x1 h => ⟨h.1, h.2.1⟩)
  post := AKs.all_iff.1 (show AKs.all S_l_FnExactDeltaCopied.args (fun ds => ∀ b, S_l_FnExactDeltaCopied.post ds [.sc (.bool b)] → b = true) from fun x0 x1 _ h => h)
set_option maxRecDepth 100000 in
theorem lifted_l_FnExactDeltaCopied (os : Os) (started : os.Started) (H : Type) (enc : TypeId × Value → H) :
    ReturnsInHanded {} Try.checked os 5 .any (Rows.fnExactDeltaCopiedSpec.pre6 enc Try.prog Try.f5 Rows.fnExactDeltaCopiedRow.domain false) (Rows.fnExactDeltaCopiedSpec.post enc Try.prog Try.f5 false true false false) :=
  law_lifted (C := Try.checked) (F := S_l_FnExactDeltaCopied) (by kernel_rfl) started (by kernel_rfl) Try.func5
    (ChangeSpec.witness6 (enc := enc) (C := Try.checked) false ⟨#[], #[.slice none 0 0, .slice none 0 0], []⟩ 8 (by kernel_rfl) (by kernel_rfl) (by kernel_rfl) (by kernel_rfl))
    m_l_FnExactDeltaCopied a_l_FnExactDeltaCopied (by kernel_rfl) (of_decide_eq_true (by kernel_rfl)) rfl (fun ds h => by match ds, h with | [d0, d1], _ => rfl) (by kernel_rfl) Try.underlying4
theorem facts_FnExactDeltaCopied : ∀ P : Program, P = Try.prog → P.initOrder.toList = ioNums.map Char.ofNat → joinedFacts P 5 Try.f5 Rows.fnExactDeltaCopiedSpec Rows.fnExactDeltaCopiedRow = true := by
  intro P hP h
  have h1 := io1 P hP h
  have h2 := io2 P hP h
  have h3 := io3 P hP h
  unfold joinedFacts
  rw [h1, h2, h3]
  subst hP
  show (_ : Bool) = true
  kernel_rfl
theorem proved_FnExactDeltaCopied : Rows.FnExactDeltaCopiedSaid :=
  OpenClaim.holds_of_wide 5 Try.f5 rfl rfl rfl rfl rfl rfl rfl ⟨rfl, rfl, rfl, rfl, rfl⟩ rfl rfl rfl rfl rfl (by kernel_rfl) Try.func5 (facts_FnExactDeltaCopied _ rfl ioL)
    (of_decide_eq_true (by kernel_rfl)) (by unfold Func.isWrapper; first | (rw [if_pos (by decide +kernel)]; kernel_rfl) | (rw [if_neg (by decide +kernel)]; exact ⟨rfl, rfl⟩))
    (fun os started H enc _ => lifted_l_FnExactDeltaCopied os started H enc)
end Go.Proofs.Ythongcikinnjlaa
