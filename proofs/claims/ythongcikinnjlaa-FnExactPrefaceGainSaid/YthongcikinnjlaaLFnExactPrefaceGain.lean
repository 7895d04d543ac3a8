/-
  FnExactPrefaceGain: for every input the law returns true, and each argument reads afterwards as it read before. No conditions.
-/
import Derived.Test.YthongcikinnjlaaRows
import Derived.Test.YthongcikinnjlaaT
import Derived.Test.YthongcikinnjlaaSa
import Derived.Test.YthongcikinnjlaaSg
import Derived.Test.YthongcikinnjlaaSh
set_option linter.unusedVariables false
set_option linter.unusedSimpArgs false
open Go Go.Ax Go.Mx Go.ChangeShapes Go.WideShapes Go.RowKit Go.ChangeAt
namespace Go.Proofs.Ythongcikinnjlaa
def V_l_FnExactPrefaceGain : Prop :=
  ∀ (l0 l1 : List Int), (↑(List.length l0) : Int) ≤ 9223372036854775807 ∧ (↑(List.length l1) : Int) ≤ 9223372036854775807 → (1048576 < (↑(List.length l0) : Int) → true = true) ∧ (¬1048576 < (↑(List.length l0) : Int) → (1048576 < (↑(List.length
    l1) : Int) → true = true) ∧ (¬1048576 < (↑(List.length l1) : Int) → (↑(List.length l0) : Int) ≤ 1099511627776 ∧ ∀ (l2 : List Int), l2 = l0 → (↑(List.length l1) : Int) ≤ 1099511627776 ∧ ∀ (l3 : List Int), l3 = l1 → ((↑(List.length l2) : Int)
    ≤ 10000000 ∧ (↑(List.length l3) : Int) ≤ 10000000) ∧ ∀ (n4 : Int), n4 = gainD l2 l3 → (↑(List.length l0) : Int) ≤ 1099511627776 ∧ ∀ (l5 : List Int), l5 = l0 → (↑(List.length l1) : Int) ≤ 1099511627776 ∧ ∀ (l6 : List Int), l6 = l1 →
    ((↑(List.length l5) : Int) ≤ 10000000 ∧ (↑(List.length l6) : Int) ≤ 10000000) ∧ ∀ (n7 : Int), n7 = gainD l5 l6 → (n7 ≠ n4 → false = true) ∧ (¬n7 ≠ n4 → (↑(List.length l0) : Int) ≤ 1099511627776 ∧ ∀ (l8 : List Int), l8 = l0 → ((↑(List.length
    l5) : Int) ≤ 1099511627776 ∧ (↑(List.length l8) : Int) ≤ 1099511627776) ∧ (true = decide (l5 = l8) → (↑(List.length l1) : Int) ≤ 1099511627776 ∧ ∀ (l9 : List Int), l9 = l1 → ((↑(List.length l6) : Int) ≤ 1099511627776 ∧ (↑(List.length l9) :
    Int) ≤ 1099511627776) ∧ (true = decide (l6 = l9) → true = true) ∧ (false = decide (l6 = l9) → false = true)) ∧ (false = decide (l5 = l8) → false = true))))
theorem v_l_FnExactPrefaceGain : V_l_FnExactPrefaceGain := by
  unfold V_l_FnExactPrefaceGain
  rintro a b ⟨ha, hb⟩
  clear ha hb
  repeat' (first | apply And.intro | (rintro _ rfl) | (rintro _ _ ⟨rfl, rfl⟩) | (intro (h : _ = _ ∧ _ = _); obtain ⟨_, rfl⟩ := h) | (intro _ (h : _ = _ ∧ _ ≤ _); obtain ⟨rfl, _⟩ := h) | intro _)
  all_goals (first | omega | with_reducible rfl | (simp only [marks_len, marks3_len]; omega) | (rename_i h; simp [marks_len, marks3_len] at h; done) | (rename_i h; simp [marks_len, marks3_len] at h; omega) | grind)
def S_l_FnExactPrefaceGain : FSpec where
  args := [.sc (.sl .int), .sc (.sl .int)]
  outs := [.sc .bool]
  pre := fun a => match a with
    | [.sc (.sl .int aPreface), .sc (.sl .int aList)] => (((aPreface).length : Nat) : Int) ≤ 9223372036854775807 ∧ (((aList).length : Nat) : Int) ≤ 9223372036854775807
    | _ => False
  post := fun a r => match a, r with
    | [.sc (.sl .int aPreface), .sc (.sl .int aList)], [.sc (.bool r)] => r = true
    | _, _ => False
  kept := false
theorem m_l_FnExactPrefaceGain : Meets Try.prog 11 S_l_FnExactPrefaceGain :=
  meets tok mixed Try.func11 (by kernel_rfl) (l := [(34, S_l_toIntS), (37, S_l_eqIntS), (50, S_s_PrefaceGain), (51, S_i_PrefaceGain)]) ⟨m_l_toIntS, m_l_eqIntS, m_s_PrefaceGain, m_i_PrefaceGain, trivial⟩ (ann := []) v_l_FnExactPrefaceGain (by kernel_rfl)
theorem a_l_FnExactPrefaceGain : LawOf Try.prog Try.f11.params.toList S_l_FnExactPrefaceGain where
  args := by kernel_rfl
  outs := rfl
  pre := AKs.all_iff.1 (show AKs.all S_l_FnExactPrefaceGain.args (fun ds => bnds ds → S_l_FnExactPrefaceGain.pre ds) from fun x0 x1 h => ⟨h.1, h.2.1⟩)
  post := AKs.all_iff.1 (show AKs.all S_l_FnExactPrefaceGain.args (fun ds => ∀ b, S_l_FnExactPrefaceGain.post ds [.sc (.bool b)] → b = true) from fun x0 x1 _ h => h)
set_option maxRecDepth 100000 in
theorem lifted_l_FnExactPrefaceGain (os : Os) (started : os.Started) (H : Type) (enc : TypeId × Value → H) :
    ReturnsInHanded {} Try.checked os 11 .any (Rows.fnExactPrefaceGainSpec.pre6 enc Try.prog Try.f11 Rows.fnExactPrefaceGainRow.domain false) (Rows.fnExactPrefaceGainSpec.post enc Try.prog Try.f11 false true false false) :=
  law_lifted (C := Try.checked) (F := S_l_FnExactPrefaceGain) (by kernel_rfl) started (by kernel_rfl) Try.func11
    (ChangeSpec.witness6 (enc := enc) (C := Try.checked) false ⟨#[], #[.slice none 0 0, .slice none 0 0], []⟩ 8 (by kernel_rfl) (by kernel_rfl) (by kernel_rfl) (by kernel_rfl))
    m_l_FnExactPrefaceGain a_l_FnExactPrefaceGain (by kernel_rfl) (of_decide_eq_true (by kernel_rfl)) rfl (fun ds h => by match ds, h with | [d0, d1], _ => rfl) (by kernel_rfl) Try.underlying4
theorem facts_FnExactPrefaceGain : ∀ P : Program, P = Try.prog → P.initOrder.toList = ioNums.map Char.ofNat → joinedFacts P 11 Try.f11 Rows.fnExactPrefaceGainSpec Rows.fnExactPrefaceGainRow = true := by
  intro P hP h
  have h1 := io1 P hP h
  have h2 := io2 P hP h
  have h3 := io3 P hP h
  unfold joinedFacts
  rw [h1, h2, h3]
  subst hP
  show (_ : Bool) = true
  kernel_rfl
theorem proved_FnExactPrefaceGain : Rows.FnExactPrefaceGainSaid :=
  OpenClaim.holds_of_wide 11 Try.f11 rfl rfl rfl rfl rfl rfl rfl ⟨rfl, rfl, rfl, rfl, rfl⟩ rfl rfl rfl rfl rfl (by kernel_rfl) Try.func11 (facts_FnExactPrefaceGain _ rfl ioL)
    (of_decide_eq_true (by kernel_rfl)) (by unfold Func.isWrapper; first | (rw [if_pos (by decide +kernel)]; kernel_rfl) | (rw [if_neg (by decide +kernel)]; exact ⟨rfl, rfl⟩))
    (fun os started H enc _ => lifted_l_FnExactPrefaceGain os started H enc)
end Go.Proofs.Ythongcikinnjlaa
