/-
  FnDelta: for every input the law returns true, and each argument reads afterwards as it read before. No conditions.
-/
import Derived.Test.YthongcikinnjlaaRows
import Derived.Test.YthongcikinnjlaaT
import Derived.Test.YthongcikinnjlaaSa
import Derived.Test.YthongcikinnjlaaSb
import Derived.Test.YthongcikinnjlaaSc
import Derived.Test.YthongcikinnjlaaSd
import Derived.Test.YthongcikinnjlaaSe
import Derived.Test.YthongcikinnjlaaSf
set_option linter.unusedVariables false
set_option linter.unusedSimpArgs false
open Go Go.Ax Go.Mx Go.ChangeShapes Go.WideShapes Go.RowKit Go.ChangeAt
namespace Go.Proofs.Ythongcikinnjlaa
def V_l_FnDelta : Prop :=
  ∀ (l0 : List UInt8), (↑(List.length l0) : Int) ≤ 9223372036854775807 → (1048576 < (↑(List.length l0) : Int) → true = true) ∧ (¬1048576 < (↑(List.length l0) : Int) → (↑(List.length l0) : Int) ≤ 1099511627776 ∧ ∀ (l1 l2 : List Int),
    (↑(List.length l1) : Int) ≤ 400 ∧ (↑(List.length l2) : Int) ≤ 400 → ((↑(List.length l1) : Int) ≤ 1099511627776 ∧ (↑(List.length l2) : Int) ≤ 1099511627776) ∧ ∀ (l3 : List (Int × Int × Int)), l3 = deltaD l1 l2 ∧ (↑(List.length l3) : Int) ≤ 40
    → ((↑(List.length l1) : Int) ≤ 1099511627776 ∧ (↑(List.length l2) : Int) ≤ 1099511627776) ∧ ∀ (l4 : List (Int × Int × Int)), l4 = deltaD l1 l2 ∧ (↑(List.length l4) : Int) ≤ 40 → ((↑(List.length l3) : Int) ≤ 1099511627776 ∧ (↑(List.length l4)
    : Int) ≤ 1099511627776) ∧ (true = decide (l3 = l4) → (↑(List.length l1) : Int) ≤ 1099511627776 ∧ (true = LV l1 → (↑(List.length l2) : Int) ≤ 1099511627776 ∧ (true = LV l2 → ((↑(List.length l1) : Int) ≤ 1099511627776 ∧ (↑(List.length l3) :
    Int) ≤ 1099511627776) ∧ ∀ (l5 : List Int), (true = Option.isSome (deltaApply l1 l3) ∧ l5 = Option.getD (deltaApply l1 l3) [] → ((↑(List.length l5) : Int) ≤ 1099511627776 ∧ (↑(List.length l2) : Int) ≤ 1099511627776) ∧ (true = decide (l5 = l2)
    → ((↑(List.length l3) : Int) ≤ (↑(List.length l2) : Int) → true = true) ∧ (¬(↑(List.length l3) : Int) ≤ (↑(List.length l2) : Int) → false = true)) ∧ (false = decide (l5 = l2) → false = true)) ∧ (false = Option.isSome (deltaApply l1 l3) ∧ l5
    = Option.getD (deltaApply l1 l3) [] → false = true)) ∧ (false = LV l2 → ((↑(List.length l3) : Int) ≤ 1099511627776 ∧ (↑(List.length l4) : Int) ≤ 1099511627776) ∧ (true = decide (l3 = l4) → true = true) ∧ (false = decide (l3 = l4) → false =
    true))) ∧ (false = LV l1 → ((↑(List.length l3) : Int) ≤ 1099511627776 ∧ (↑(List.length l4) : Int) ≤ 1099511627776) ∧ (true = decide (l3 = l4) → true = true) ∧ (false = decide (l3 = l4) → false = true))) ∧ (false = decide (l3 = l4) →
    ((↑(List.length l3) : Int) ≤ 1099511627776 ∧ (↑(List.length l4) : Int) ≤ 1099511627776) ∧ (true = decide (l3 = l4) → true = true) ∧ (false = decide (l3 = l4) → false = true)))
theorem v_l_FnDelta : V_l_FnDelta := by
  unfold V_l_FnDelta
  intro code hz
  refine ⟨fun _ => rfl, fun hc => ⟨by omega, ?_⟩⟩
  intro old list hb
  have hL : true = LV old → true = LV list → deltaApply old (deltaD old list) = some list := fun h h' => delta_leads h.symm h'.symm
  have hle := deltaD_le (old := old) (l := list)
  have hal := applyD_len old
  repeat' (first | apply And.intro | (rintro _ rfl) | (rintro _ _ ⟨rfl, rfl⟩) | (intro (h : _ = _ ∧ _ = _); obtain ⟨_, rfl⟩ := h) | (intro _ (h : _ = _ ∧ _ ≤ _); obtain ⟨rfl, _⟩ := h) | intro _)
  all_goals (first | omega | with_reducible rfl | (simp only [marks_len, marks3_len]; omega) | (rename_i h; simp [marks_len, marks3_len] at h; done) | (rename_i h; simp [marks_len, marks3_len] at h; omega) | grind)
def S_l_FnDelta : FSpec where
  args := [.sc (.sl .u8)]
  outs := [.sc .bool]
  pre := fun a => match a with
    | [.sc (.sl .u8 code)] => (((code).length : Nat) : Int) ≤ 9223372036854775807
    | _ => False
  post := fun a r => match a, r with
    | [.sc (.sl .u8 code)], [.sc (.bool r)] => r = true
    | _, _ => False
  kept := false
theorem m_l_FnDelta : Meets Try.prog 15 S_l_FnDelta :=
  meets tok mixed Try.func15 (by kernel_rfl) (l := [(39, S_s_DeltaOf), (40, S_i_DeltaOf), (44, S_s_DrawDeltaOf), (45, S_l_samePieces), (46, S_s_ListValid), (48, S_i_DeltaApply), (61, S_l_sameInts)]) ⟨m_s_DeltaOf, m_i_DeltaOf, m_s_DrawDeltaOf, m_l_samePieces, m_s_ListValid, m_i_DeltaApply, m_l_sameInts, trivial⟩ (ann := []) v_l_FnDelta (by kernel_rfl)
theorem a_l_FnDelta : LawOf Try.prog Try.f15.params.toList S_l_FnDelta where
  args := by kernel_rfl
  outs := rfl
  pre := AKs.all_iff.1 (show AKs.all S_l_FnDelta.args (fun ds => bnds ds → S_l_FnDelta.pre ds) from fun x0 h => h.1)
  post := AKs.all_iff.1 (show AKs.all S_l_FnDelta.args (fun ds => ∀ b, S_l_FnDelta.post ds [.sc (.bool b)] → b = true) from fun x0 _ h => h)
set_option maxRecDepth 100000 in
theorem lifted_l_FnDelta (os : Os) (started : os.Started) (H : Type) (enc : TypeId × Value → H) :
    ReturnsInHanded {} Try.checked os 15 .any (Rows.fnDeltaSpec.pre6 enc Try.prog Try.f15 Rows.fnDeltaRow.domain false) (Rows.fnDeltaSpec.post enc Try.prog Try.f15 false true false false) :=
  law_lifted (C := Try.checked) (F := S_l_FnDelta) (by kernel_rfl) started (by kernel_rfl) Try.func15
    (ChangeSpec.witness6 (enc := enc) (C := Try.checked) false ⟨#[], #[.slice none 0 0], []⟩ 8 (by kernel_rfl) (by kernel_rfl) (by kernel_rfl) (by kernel_rfl))
    m_l_FnDelta a_l_FnDelta (by kernel_rfl) (of_decide_eq_true (by kernel_rfl)) rfl (fun ds h => by match ds, h with | [d0], _ => rfl) (by kernel_rfl) Try.underlying4
theorem facts_FnDelta : ∀ P : Program, P = Try.prog → P.initOrder.toList = ioNums.map Char.ofNat → joinedFacts P 15 Try.f15 Rows.fnDeltaSpec Rows.fnDeltaRow = true := by
  intro P hP h
  have h1 := io1 P hP h
  have h2 := io2 P hP h
  have h3 := io3 P hP h
  unfold joinedFacts
  rw [h1, h2, h3]
  subst hP
  show (_ : Bool) = true
  kernel_rfl
theorem proved_FnDelta : Rows.FnDeltaSaid :=
  OpenClaim.holds_of_wide 15 Try.f15 rfl rfl rfl rfl rfl rfl rfl ⟨rfl, rfl, rfl, rfl, rfl⟩ rfl rfl rfl rfl rfl (by kernel_rfl) Try.func15 (facts_FnDelta _ rfl ioL)
    (of_decide_eq_true (by kernel_rfl)) (by unfold Func.isWrapper; first | (rw [if_pos (by decide +kernel)]; kernel_rfl) | (rw [if_neg (by decide +kernel)]; exact ⟨rfl, rfl⟩))
    (fun os started H enc _ => lifted_l_FnDelta os started H enc)
end Go.Proofs.Ythongcikinnjlaa
