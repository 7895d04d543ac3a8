/-
  FnDeltaMore: for every input the law returns true, and each argument reads afterwards as it read before. No conditions.
-/
import Derived.Test.YthongcikinnjlaaRows
import Derived.Test.YthongcikinnjlaaT
import Derived.Test.YthongcikinnjlaaSa
import Derived.Test.YthongcikinnjlaaSb
import Derived.Test.YthongcikinnjlaaSd
import Derived.Test.YthongcikinnjlaaSe
import Derived.Test.YthongcikinnjlaaSf
set_option linter.unusedVariables false
set_option linter.unusedSimpArgs false
open Go Go.Ax Go.Mx Go.ChangeShapes Go.WideShapes Go.RowKit Go.ChangeAt
namespace Go.Proofs.Ythongcikinnjlaa
def V_l_FnDeltaMore : Prop :=
  ∀ (l0 l1 : List UInt8), (↑(List.length l0) : Int) ≤ 9223372036854775807 ∧ (↑(List.length l1) : Int) ≤ 9223372036854775807 → (1048576 < (↑(List.length l0) : Int) → true = true) ∧ (¬1048576 < (↑(List.length l0) : Int) → (1048576 <
    (↑(List.length l1) : Int) → true = true) ∧ (¬1048576 < (↑(List.length l1) : Int) → (↑(List.length l0) : Int) ≤ 1099511627776 ∧ ∀ (l2 : List Int) (l3 : List (Int × Int × Int)), (↑(List.length l2) : Int) ≤ 400 ∧ (↑(List.length l3) : Int) ≤ 80
    → ((↑(List.length l2) : Int) ≤ 1099511627776 ∧ (↑(List.length l3) : Int) ≤ 1099511627776) ∧ ∀ (l4 : List Int), (true = Option.isSome (deltaApply l2 l3) ∧ l4 = Option.getD (deltaApply l2 l3) [] → ((↑(List.length l2) : Int) ≤ 1099511627776 ∧
    (↑(List.length l3) : Int) ≤ 1099511627776) ∧ ∀ (l5 : List Int), (true = Option.isSome (deltaApply l2 l3) ∧ l5 = Option.getD (deltaApply l2 l3) [] → ((↑(List.length l4) : Int) ≤ 1099511627776 ∧ (↑(List.length l5) : Int) ≤ 1099511627776) ∧
    (true = decide (l4 = l5) → ((↑(List.length l2) : Int) = 40 → ((↑(List.length l4) : Int) ≤ 1099511627776 ∧ (↑(List.length l5) : Int) ≤ 1099511627776) ∧ (true = decide (l4 = l5) → true = true) ∧ (false = decide (l4 = l5) → false = true)) ∧
    (¬(↑(List.length l2) : Int) = 40 → (↑(0 + List.length l2) : Int) ≤ 1099511627776 ∧ 0 ≤ (↑(List.length l1) : Int) ∧ (0 : Int) < 8 ∧ (↑(List.length l2 + List.length [(↑(List.length l1) : Int) % 8]) : Int) ≤ 1099511627776 ∧ ((↑(List.length (l2 ++
    [(↑(List.length l1) : Int) % 8])) : Int) ≤ 1099511627776 ∧ (↑(List.length l3) : Int) ≤ 1099511627776) ∧ ∀ (l6 : List Int), (true = Option.isSome (deltaApply (l2 ++ [(↑(List.length l1) : Int) % 8]) l3) ∧ l6 = Option.getD (deltaApply (l2 ++
    [(↑(List.length l1) : Int) % 8]) l3) [] → ((↑(List.length l6) : Int) ≤ 1099511627776 ∧ (↑(List.length l4) : Int) ≤ 1099511627776) ∧ (true = decide (l6 = l4) → true = true) ∧ (false = decide (l6 = l4) → false = true)) ∧ (false = Option.isSome
    (deltaApply (l2 ++ [(↑(List.length l1) : Int) % 8]) l3) ∧ l6 = Option.getD (deltaApply (l2 ++ [(↑(List.length l1) : Int) % 8]) l3) [] → false = true))) ∧ (false = decide (l4 = l5) → ((↑(List.length l4) : Int) ≤ 1099511627776 ∧ (↑(List.length
    l5) : Int) ≤ 1099511627776) ∧ (true = decide (l4 = l5) → true = true) ∧ (false = decide (l4 = l5) → false = true))) ∧ (false = Option.isSome (deltaApply l2 l3) ∧ l5 = Option.getD (deltaApply l2 l3) [] → false = true)) ∧ (false =
    Option.isSome (deltaApply l2 l3) ∧ l4 = Option.getD (deltaApply l2 l3) [] → ((↑(List.length l2) : Int) ≤ 1099511627776 ∧ (↑(List.length l3) : Int) ≤ 1099511627776) ∧ ∀ (l7 : List Int), (true = Option.isSome (deltaApply l2 l3) ∧ l7 =
    Option.getD (deltaApply l2 l3) [] → false = true) ∧ (false = Option.isSome (deltaApply l2 l3) ∧ l7 = Option.getD (deltaApply l2 l3) [] → ((↑(List.length l4) : Int) ≤ 1099511627776 ∧ (↑(List.length l7) : Int) ≤ 1099511627776) ∧ (true = decide
    (l4 = l7) → ((↑(List.length l4) : Int) ≤ 1099511627776 ∧ (↑(List.length l7) : Int) ≤ 1099511627776) ∧ (true = decide (l4 = l7) → true = true) ∧ (false = decide (l4 = l7) → false = true)) ∧ (false = decide (l4 = l7) → ((↑(List.length l4) :
    Int) ≤ 1099511627776 ∧ (↑(List.length l7) : Int) ≤ 1099511627776) ∧ (true = decide (l4 = l7) → true = true) ∧ (false = decide (l4 = l7) → false = true))))))
theorem v_l_FnDeltaMore : V_l_FnDeltaMore := by
  unfold V_l_FnDeltaMore
  rintro code more ⟨hz, hz'⟩
  refine ⟨fun _ => rfl, fun hc => ⟨fun _ => rfl, fun hc' => ⟨by omega, ?_⟩⟩⟩
  intro old ps hb
  have hal := applyD_len old
  cases hr : deltaApply old ps with
  | none =>
    simp only [Option.isSome_none, Option.getD_none]
    repeat' (first | apply And.intro | (rintro _ rfl) | (rintro _ _ ⟨rfl, rfl⟩) | (intro (h : _ = _ ∧ _ = _); obtain ⟨_, rfl⟩ := h) | (intro _ (h : _ = _ ∧ _ ≤ _); obtain ⟨rfl, _⟩ := h) | intro _)
    all_goals (first | omega | with_reducible rfl | (simp only [marks_len, marks3_len]; omega) | (rename_i h; simp [marks_len, marks3_len] at h; done) | (rename_i h; simp [marks_len, marks3_len] at h; omega) | grind)
  | some r =>
    simp only [Option.isSome_some, Option.getD_some]
    obtain ⟨hs, hv⟩ := apply_valid hr
    have hlen := LV_len hv
    have m1 := Int.emod_nonneg (more.length : Int) (show (8 : Int) ≠ 0 by omega)
    have m2 := Int.emod_lt_of_pos (more.length : Int) (show 0 < (8 : Int) by omega)
    have hm : ¬ (old.length : Int) = 40 → deltaApply (old ++ [(more.length : Int) % 8]) ps = some r := deltaApply_more hr (by omega)
    generalize (more.length : Int) % 8 = k at *
    repeat' (first | apply And.intro | (rintro _ rfl) | (rintro _ _ ⟨rfl, rfl⟩) | (intro (h : _ = _ ∧ _ = _); obtain ⟨_, rfl⟩ := h) | (intro _ (h : _ = _ ∧ _ ≤ _); obtain ⟨rfl, _⟩ := h) | intro _)
    all_goals (first | omega | with_reducible rfl | (simp only [marks_len, marks3_len]; omega) | (rename_i h; simp [marks_len, marks3_len] at h; done) | (rename_i h; simp [marks_len, marks3_len] at h; omega) | grind)
def S_l_FnDeltaMore : FSpec where
  args := [.sc (.sl .u8), .sc (.sl .u8)]
  outs := [.sc .bool]
  pre := fun a => match a with
    | [.sc (.sl .u8 code), .sc (.sl .u8 more)] => (((code).length : Nat) : Int) ≤ 9223372036854775807 ∧ (((more).length : Nat) : Int) ≤ 9223372036854775807
    | _ => False
  post := fun a r => match a, r with
    | [.sc (.sl .u8 code), .sc (.sl .u8 more)], [.sc (.bool r)] => r = true
    | _, _ => False
  kept := false
theorem m_l_FnDeltaMore : Meets Try.prog 19 S_l_FnDeltaMore :=
  meets tok mixed Try.func19 (by kernel_rfl) (l := [(47, S_s_DeltaApply), (48, S_i_DeltaApply), (61, S_l_sameInts), (64, S_s_DrawDeltaApply)]) ⟨m_s_DeltaApply, m_i_DeltaApply, m_l_sameInts, m_s_DrawDeltaApply, trivial⟩ (ann := []) v_l_FnDeltaMore (by kernel_rfl)
theorem a_l_FnDeltaMore : LawOf Try.prog Try.f19.params.toList S_l_FnDeltaMore where
  args := by kernel_rfl
  outs := rfl
  pre := AKs.all_iff.1 (show AKs.all S_l_FnDeltaMore.args (fun ds => bnds ds → S_l_FnDeltaMore.pre ds) from fun x0 x1 h => ⟨h.1, h.2.1⟩)
  post := AKs.all_iff.1 (show AKs.all S_l_FnDeltaMore.args (fun ds => ∀ b, S_l_FnDeltaMore.post ds [.sc (.bool b)] → b = true) from fun x0 x1 _ h => h)
set_option maxRecDepth 100000 in
theorem lifted_l_FnDeltaMore (os : Os) (started : os.Started) (H : Type) (enc : TypeId × Value → H) :
    ReturnsInHanded {} Try.checked os 19 .any (Rows.fnDeltaMoreSpec.pre6 enc Try.prog Try.f19 Rows.fnDeltaMoreRow.domain false) (Rows.fnDeltaMoreSpec.post enc Try.prog Try.f19 false true false false) :=
  law_lifted (C := Try.checked) (F := S_l_FnDeltaMore) (by kernel_rfl) started (by kernel_rfl) Try.func19
    (ChangeSpec.witness6 (enc := enc) (C := Try.checked) false ⟨#[], #[.slice none 0 0, .slice none 0 0], []⟩ 8 (by kernel_rfl) (by kernel_rfl) (by kernel_rfl) (by kernel_rfl))
    m_l_FnDeltaMore a_l_FnDeltaMore (by kernel_rfl) (of_decide_eq_true (by kernel_rfl)) rfl (fun ds h => by match ds, h with | [d0, d1], _ => rfl) (by kernel_rfl) Try.underlying4
theorem facts_FnDeltaMore : ∀ P : Program, P = Try.prog → P.initOrder.toList = ioNums.map Char.ofNat → joinedFacts P 19 Try.f19 Rows.fnDeltaMoreSpec Rows.fnDeltaMoreRow = true := by
  intro P hP h
  have h1 := io1 P hP h
  have h2 := io2 P hP h
  have h3 := io3 P hP h
  unfold joinedFacts
  rw [h1, h2, h3]
  subst hP
  show (_ : Bool) = true
  kernel_rfl
theorem proved_FnDeltaMore : Rows.FnDeltaMoreSaid :=
  OpenClaim.holds_of_wide 19 Try.f19 rfl rfl rfl rfl rfl rfl rfl ⟨rfl, rfl, rfl, rfl, rfl⟩ rfl rfl rfl rfl rfl (by kernel_rfl) Try.func19 (facts_FnDeltaMore _ rfl ioL)
    (of_decide_eq_true (by kernel_rfl)) (by unfold Func.isWrapper; first | (rw [if_pos (by decide +kernel)]; kernel_rfl) | (rw [if_neg (by decide +kernel)]; exact ⟨rfl, rfl⟩))
    (fun os started H enc _ => lifted_l_FnDeltaMore os started H enc)
end Go.Proofs.Ythongcikinnjlaa
