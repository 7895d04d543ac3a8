/-
  FnPrefaceExpandNone: for every input the law returns true, and each argument reads afterwards as it read before. No conditions.
-/
import Derived.Test.YthongcikinnjlaaRows
import Derived.Test.YthongcikinnjlaaT
import Derived.Test.YthongcikinnjlaaSa
import Derived.Test.YthongcikinnjlaaSb
import Derived.Test.YthongcikinnjlaaSf
import Derived.Test.YthongcikinnjlaaSg
import Derived.Test.YthongcikinnjlaaSh
set_option linter.unusedVariables false
set_option linter.unusedSimpArgs false
open Go Go.Ax Go.Mx Go.ChangeShapes Go.WideShapes Go.RowKit Go.ChangeAt
namespace Go.Proofs.Ythongcikinnjlaa
def V_l_FnPrefaceExpandNone : Prop :=
  ∀ (l0 : List UInt8), (↑(List.length l0) : Int) ≤ 9223372036854775807 → (1048576 < (↑(List.length l0) : Int) → true = true) ∧ (¬1048576 < (↑(List.length l0) : Int) → (↑(List.length l0) : Int) ≤ 1099511627776 ∧ ∀ (l1 : List Int) (l2 : List
    (Int × Int × Int)), (↑(List.length l1) : Int) ≤ 400 ∧ (↑(List.length l2) : Int) ≤ 80 → ((↑(List.length l1) : Int) ≤ 10000000 ∧ (↑(List.length l2) : Int) ≤ 10000000) ∧ ∀ (l3 : List Int), (true = Option.isSome (pexpD l1 l2) ∧ l3 = Option.getD
    (pexpD l1 l2) [] → ((↑(List.length l1) : Int) ≤ 10000000 ∧ (↑(List.length l2) : Int) ≤ 10000000) ∧ ∀ (l4 : List Int), (true = Option.isSome (pexpD l1 l2) ∧ l4 = Option.getD (pexpD l1 l2) [] → ((↑(List.length l3) : Int) ≤ 1099511627776 ∧
    (↑(List.length l4) : Int) ≤ 1099511627776) ∧ (true = decide (l3 = l4) → (↑(List.length l2) : Int) ≤ 1099511627776 ∧ ∀ (l5 : List Int), (true = Option.isSome (expand l2) ∧ l5 = Option.getD (expand l2) [] → ((↑0 : Int) ≤ 10000000 ∧
    (↑(List.length l2) : Int) ≤ 10000000) ∧ ∀ (l6 : List Int), (true = Option.isSome (pexpD [] l2) ∧ l6 = Option.getD (pexpD [] l2) [] → ((↑(List.length l5) : Int) ≤ 1099511627776 ∧ (↑(List.length l6) : Int) ≤ 1099511627776) ∧ (true = decide (l5
    = l6) → true = true) ∧ (false = decide (l5 = l6) → false = true)) ∧ (false = Option.isSome (pexpD [] l2) ∧ l6 = Option.getD (pexpD [] l2) [] → false = true)) ∧ (false = Option.isSome (expand l2) ∧ l5 = Option.getD (expand l2) [] → ((↑0 :
    Int) ≤ 10000000 ∧ (↑(List.length l2) : Int) ≤ 10000000) ∧ ∀ (l7 : List Int), (true = Option.isSome (pexpD [] l2) ∧ l7 = Option.getD (pexpD [] l2) [] → false = true) ∧ (false = Option.isSome (pexpD [] l2) ∧ l7 = Option.getD (pexpD [] l2) [] →
    ((↑(List.length l5) : Int) ≤ 1099511627776 ∧ (↑(List.length l7) : Int) ≤ 1099511627776) ∧ (true = decide (l5 = l7) → true = true) ∧ (false = decide (l5 = l7) → false = true)))) ∧ (false = decide (l3 = l4) → ((↑(List.length l3) : Int) ≤
    1099511627776 ∧ (↑(List.length l4) : Int) ≤ 1099511627776) ∧ (true = decide (l3 = l4) → true = true) ∧ (false = decide (l3 = l4) → false = true))) ∧ (false = Option.isSome (pexpD l1 l2) ∧ l4 = Option.getD (pexpD l1 l2) [] → false = true)) ∧
    (false = Option.isSome (pexpD l1 l2) ∧ l3 = Option.getD (pexpD l1 l2) [] → ((↑(List.length l1) : Int) ≤ 10000000 ∧ (↑(List.length l2) : Int) ≤ 10000000) ∧ ∀ (l8 : List Int), (true = Option.isSome (pexpD l1 l2) ∧ l8 = Option.getD (pexpD l1
    l2) [] → false = true) ∧ (false = Option.isSome (pexpD l1 l2) ∧ l8 = Option.getD (pexpD l1 l2) [] → ((↑(List.length l3) : Int) ≤ 1099511627776 ∧ (↑(List.length l8) : Int) ≤ 1099511627776) ∧ (true = decide (l3 = l8) → (↑(List.length l2) :
    Int) ≤ 1099511627776 ∧ ∀ (l9 : List Int), (true = Option.isSome (expand l2) ∧ l9 = Option.getD (expand l2) [] → ((↑0 : Int) ≤ 10000000 ∧ (↑(List.length l2) : Int) ≤ 10000000) ∧ ∀ (l10 : List Int), (true = Option.isSome (pexpD [] l2) ∧ l10 =
    Option.getD (pexpD [] l2) [] → ((↑(List.length l9) : Int) ≤ 1099511627776 ∧ (↑(List.length l10) : Int) ≤ 1099511627776) ∧ (true = decide (l9 = l10) → true = true) ∧ (false = decide (l9 = l10) → false = true)) ∧ (false = Option.isSome (pexpD
    [] l2) ∧ l10 = Option.getD (pexpD [] l2) [] → false = true)) ∧ (false = Option.isSome (expand l2) ∧ l9 = Option.getD (expand l2) [] → ((↑0 : Int) ≤ 10000000 ∧ (↑(List.length l2) : Int) ≤ 10000000) ∧ ∀ (l11 : List Int), (true = Option.isSome
    (pexpD [] l2) ∧ l11 = Option.getD (pexpD [] l2) [] → false = true) ∧ (false = Option.isSome (pexpD [] l2) ∧ l11 = Option.getD (pexpD [] l2) [] → ((↑(List.length l9) : Int) ≤ 1099511627776 ∧ (↑(List.length l11) : Int) ≤ 1099511627776) ∧ (true
    = decide (l9 = l11) → true = true) ∧ (false = decide (l9 = l11) → false = true)))) ∧ (false = decide (l3 = l8) → ((↑(List.length l3) : Int) ≤ 1099511627776 ∧ (↑(List.length l8) : Int) ≤ 1099511627776) ∧ (true = decide (l3 = l8) → true =
    true) ∧ (false = decide (l3 = l8) → false = true)))))
theorem v_l_FnPrefaceExpandNone : V_l_FnPrefaceExpandNone := by
  unfold V_l_FnPrefaceExpandNone
  intro code hz
  refine ⟨fun _ => rfl, fun hc => ⟨by omega, ?_⟩⟩
  intro p ts hb
  have hl := pexpD_len p ts
  have hl2 := pexpD_len [] ts
  have hN := pexpD_nil ts
  repeat' (first | apply And.intro | (rintro _ rfl) | (rintro _ _ ⟨rfl, rfl⟩) | (intro (h : _ = _ ∧ _ = _); obtain ⟨_, rfl⟩ := h) | (intro _ (h : _ = _ ∧ _ ≤ _); obtain ⟨rfl, _⟩ := h) | intro _)
  all_goals (first | omega | with_reducible rfl | (simp only [marks_len, marks3_len]; omega) | (rename_i h; simp [marks_len, marks3_len] at h; done) | (rename_i h; simp [marks_len, marks3_len] at h; omega) | grind)
def S_l_FnPrefaceExpandNone : FSpec where
  args := [.sc (.sl .u8)]
  outs := [.sc .bool]
  pre := fun a => match a with
    | [.sc (.sl .u8 code)] => (((code).length : Nat) : Int) ≤ 9223372036854775807
    | _ => False
  post := fun a r => match a, r with
    | [.sc (.sl .u8 code)], [.sc (.bool r)] => r = true
    | _, _ => False
  kept := false
theorem m_l_FnPrefaceExpandNone : Meets Try.prog 25 S_l_FnPrefaceExpandNone :=
  meets tok mixed Try.func25 (by kernel_rfl) (l := [(58, S_s_PrefaceExpand), (60, S_i_PrefaceExpand), (61, S_l_sameInts), (70, S_s_DrawPrefaceExpand), (71, S_i_TokensExpand)]) ⟨m_s_PrefaceExpand, m_i_PrefaceExpand, m_l_sameInts, m_s_DrawPrefaceExpand, m_i_TokensExpand, trivial⟩ (ann := []) v_l_FnPrefaceExpandNone (by kernel_rfl)
theorem a_l_FnPrefaceExpandNone : LawOf Try.prog Try.f25.params.toList S_l_FnPrefaceExpandNone where
  args := by kernel_rfl
  outs := rfl
  pre := AKs.all_iff.1 (show AKs.all S_l_FnPrefaceExpandNone.args (fun ds => bnds ds → S_l_FnPrefaceExpandNone.pre ds) from fun x0 h => h.1)
  post := AKs.all_iff.1 (show AKs.all S_l_FnPrefaceExpandNone.args (fun ds => ∀ b, S_l_FnPrefaceExpandNone.post ds [.sc (.bool b)] → b = true) from fun x0 _ h => h)
set_option maxRecDepth 100000 in
theorem lifted_l_FnPrefaceExpandNone (os : Os) (started : os.Started) (H : Type) (enc : TypeId × Value → H) :
    ReturnsInHanded {} Try.checked os 25 .any (Rows.fnPrefaceExpandNoneSpec.pre6 enc Try.prog Try.f25 Rows.fnPrefaceExpandNoneRow.domain false) (Rows.fnPrefaceExpandNoneSpec.post enc Try.prog Try.f25 false true false false) :=
  law_lifted (C := Try.checked) (F := S_l_FnPrefaceExpandNone) (by kernel_rfl) started (by kernel_rfl) Try.func25
    (ChangeSpec.witness6 (enc := enc) (C := Try.checked) false ⟨#[], #[.slice none 0 0], []⟩ 8 (by kernel_rfl) (by kernel_rfl) (by kernel_rfl) (by kernel_rfl))
    m_l_FnPrefaceExpandNone a_l_FnPrefaceExpandNone (by kernel_rfl) (of_decide_eq_true (by kernel_rfl)) rfl (fun ds h => by match ds, h with | [d0], _ => rfl) (by kernel_rfl) Try.underlying4
theorem facts_FnPrefaceExpandNone : ∀ P : Program, P = Try.prog → P.initOrder.toList = ioNums.map Char.ofNat → joinedFacts P 25 Try.f25 Rows.fnPrefaceExpandNoneSpec Rows.fnPrefaceExpandNoneRow = true := by
  intro P hP h
  have h1 := io1 P hP h
  have h2 := io2 P hP h
  have h3 := io3 P hP h
  unfold joinedFacts
  rw [h1, h2, h3]
  subst hP
  show (_ : Bool) = true
  kernel_rfl
theorem proved_FnPrefaceExpandNone : Rows.FnPrefaceExpandNoneSaid :=
  OpenClaim.holds_of_wide 25 Try.f25 rfl rfl rfl rfl rfl rfl rfl ⟨rfl, rfl, rfl, rfl, rfl⟩ rfl rfl rfl rfl rfl (by kernel_rfl) Try.func25 (facts_FnPrefaceExpandNone _ rfl ioL)
    (of_decide_eq_true (by kernel_rfl)) (by unfold Func.isWrapper; first | (rw [if_pos (by decide +kernel)]; kernel_rfl) | (rw [if_neg (by decide +kernel)]; exact ⟨rfl, rfl⟩))
    (fun os started H enc _ => lifted_l_FnPrefaceExpandNone os started H enc)
end Go.Proofs.Ythongcikinnjlaa
