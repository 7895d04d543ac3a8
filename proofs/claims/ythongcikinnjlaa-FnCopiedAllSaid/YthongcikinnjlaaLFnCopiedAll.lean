/-
  FnCopiedAll: for every input the law returns true, and each argument reads afterwards as it read before. No conditions.
-/
import Derived.Test.YthongcikinnjlaaRows
import Derived.Test.YthongcikinnjlaaT
import Derived.Test.YthongcikinnjlaaSa
import Derived.Test.YthongcikinnjlaaSb
import Derived.Test.YthongcikinnjlaaSc
import Derived.Test.YthongcikinnjlaaSd
import Derived.Test.YthongcikinnjlaaSe
set_option linter.unusedVariables false
set_option linter.unusedSimpArgs false
open Go Go.Ax Go.Mx Go.ChangeShapes Go.WideShapes Go.RowKit Go.ChangeAt
namespace Go.Proofs.Ythongcikinnjlaa
def V_l_FnCopiedAll : Prop :=
  ∀ (l0 : List UInt8), (↑(List.length l0) : Int) ≤ 9223372036854775807 → (1048576 < (↑(List.length l0) : Int) → true = true) ∧ (¬1048576 < (↑(List.length l0) : Int) → (↑(List.length l0) : Int) ≤ 1099511627776 ∧ ∀ (l1 l2 : List Int),
    (↑(List.length l1) : Int) ≤ 400 ∧ (↑(List.length l2) : Int) ≤ 400 → ((↑(List.length l1) : Int) ≤ 1099511627776 ∧ (↑(List.length l2) : Int) ≤ 1099511627776) ∧ ∀ (l3 : List (Int × Int × Int)), l3 = deltaD l1 l2 ∧ (↑(List.length l3) : Int) ≤ 40
    → ((↑(List.length l1) : Int) ≤ 1099511627776 ∧ (↑(List.length l2) : Int) ≤ 1099511627776) ∧ ∀ (l4 : List (Int × Int × Int)), l4 = deltaD l1 l2 ∧ (↑(List.length l4) : Int) ≤ 40 → ((↑(List.length l3) : Int) ≤ 1099511627776 ∧ (↑(List.length l4)
    : Int) ≤ 1099511627776) ∧ (true = decide (l3 = l4) → (↑(List.length l1) : Int) ≤ 1099511627776 ∧ (true = LV l1 → ((↑(List.length l1) : Int) < 2 → ((↑(List.length l3) : Int) ≤ 1099511627776 ∧ (↑(List.length l4) : Int) ≤ 1099511627776) ∧ (true
    = decide (l3 = l4) → true = true) ∧ (false = decide (l3 = l4) → false = true)) ∧ (¬(↑(List.length l1) : Int) < 2 → ((↑(List.length l1) : Int) ≤ 1099511627776 ∧ (↑(List.length l1) : Int) ≤ 1099511627776) ∧ ∀ (l5 : List (Int × Int × Int)), l5
    = deltaD l1 l1 ∧ (↑(List.length l5) : Int) ≤ 40 → ((↑(List.length l1) : Int) ≤ 1099511627776 ∧ (↑(List.length l5) : Int) ≤ 1099511627776) ∧ ∀ (n6 : Int), n6 = copiedD l1 l5 → (n6 = (↑(List.length l1) : Int) → ((↑(List.length l3) : Int) ≤
    (↑(List.length l2) : Int) → true = true) ∧ (¬(↑(List.length l3) : Int) ≤ (↑(List.length l2) : Int) → false = true)) ∧ (¬n6 = (↑(List.length l1) : Int) → false = true))) ∧ (false = LV l1 → ((↑(List.length l3) : Int) ≤ 1099511627776 ∧
    (↑(List.length l4) : Int) ≤ 1099511627776) ∧ (true = decide (l3 = l4) → true = true) ∧ (false = decide (l3 = l4) → false = true))) ∧ (false = decide (l3 = l4) → ((↑(List.length l3) : Int) ≤ 1099511627776 ∧ (↑(List.length l4) : Int) ≤
    1099511627776) ∧ (true = decide (l3 = l4) → true = true) ∧ (false = decide (l3 = l4) → false = true)))
theorem v_l_FnCopiedAll : V_l_FnCopiedAll := by
  unfold V_l_FnCopiedAll
  intro code hz
  refine ⟨fun _ => rfl, fun hc => ⟨by omega, ?_⟩⟩
  intro old list hb
  have hC : true = LV old → ¬ (old.length : Int) < 2 → copiedD old (deltaD old old) = old.length := fun h h2 => copied_all h.symm (by omega)
  have hle := deltaD_le (old := old) (l := list)
  repeat' (first | apply And.intro | (rintro _ rfl) | (rintro _ _ ⟨rfl, rfl⟩) | (intro (h : _ = _ ∧ _ = _); obtain ⟨_, rfl⟩ := h) | (intro _ (h : _ = _ ∧ _ ≤ _); obtain ⟨rfl, _⟩ := h) | intro _)
  all_goals (first | omega | with_reducible rfl | (simp only [marks_len, marks3_len]; omega) | (rename_i h; simp [marks_len, marks3_len] at h; done) | (rename_i h; simp [marks_len, marks3_len] at h; omega) | grind)
def S_l_FnCopiedAll : FSpec where
  args := [.sc (.sl .u8)]
  outs := [.sc .bool]
  pre := fun a => match a with
    | [.sc (.sl .u8 code)] => (((code).length : Nat) : Int) ≤ 9223372036854775807
    | _ => False
  post := fun a r => match a, r with
    | [.sc (.sl .u8 code)], [.sc (.bool r)] => r = true
    | _, _ => False
  kept := false
theorem m_l_FnCopiedAll : Meets Try.prog 13 S_l_FnCopiedAll :=
  meets tok mixed Try.func13 (by kernel_rfl) (l := [(36, S_i_DeltaCopied), (39, S_s_DeltaOf), (40, S_i_DeltaOf), (44, S_s_DrawDeltaOf), (45, S_l_samePieces), (46, S_s_ListValid)]) ⟨m_i_DeltaCopied, m_s_DeltaOf, m_i_DeltaOf, m_s_DrawDeltaOf, m_l_samePieces, m_s_ListValid, trivial⟩ (ann := []) v_l_FnCopiedAll (by kernel_rfl)
theorem a_l_FnCopiedAll : LawOf Try.prog Try.f13.params.toList S_l_FnCopiedAll where
  args := by kernel_rfl
  outs := rfl
  pre := AKs.all_iff.1 (show AKs.all S_l_FnCopiedAll.args (fun ds => bnds ds → S_l_FnCopiedAll.pre ds) from fun x0 h => h.1)
  post := AKs.all_iff.1 (show AKs.all S_l_FnCopiedAll.args (fun ds => ∀ b, S_l_FnCopiedAll.post ds [.sc (.bool b)] → b = true) from fun x0 _ h => h)
set_option maxRecDepth 100000 in
theorem lifted_l_FnCopiedAll (os : Os) (started : os.Started) (H : Type) (enc : TypeId × Value → H) :
    ReturnsInHanded {} Try.checked os 13 .any (Rows.fnCopiedAllSpec.pre6 enc Try.prog Try.f13 Rows.fnCopiedAllRow.domain false) (Rows.fnCopiedAllSpec.post enc Try.prog Try.f13 false true false false) :=
  law_lifted (C := Try.checked) (F := S_l_FnCopiedAll) (by kernel_rfl) started (by kernel_rfl) Try.func13
    (ChangeSpec.witness6 (enc := enc) (C := Try.checked) false ⟨#[], #[.slice none 0 0], []⟩ 8 (by kernel_rfl) (by kernel_rfl) (by kernel_rfl) (by kernel_rfl))
    m_l_FnCopiedAll a_l_FnCopiedAll (by kernel_rfl) (of_decide_eq_true (by kernel_rfl)) rfl (fun ds h => by match ds, h with | [d0], _ => rfl) (by kernel_rfl) Try.underlying4
theorem facts_FnCopiedAll : ∀ P : Program, P = Try.prog → P.initOrder.toList = ioNums.map Char.ofNat → joinedFacts P 13 Try.f13 Rows.fnCopiedAllSpec Rows.fnCopiedAllRow = true := by
  intro P hP h
  have h1 := io1 P hP h
  have h2 := io2 P hP h
  have h3 := io3 P hP h
  unfold joinedFacts
  rw [h1, h2, h3]
  subst hP
  show (_ : Bool) = true
  kernel_rfl
theorem proved_FnCopiedAll : Rows.FnCopiedAllSaid :=
  OpenClaim.holds_of_wide 13 Try.f13 rfl rfl rfl rfl rfl rfl rfl ⟨rfl, rfl, rfl, rfl, rfl⟩ rfl rfl rfl rfl rfl (by kernel_rfl) Try.func13 (facts_FnCopiedAll _ rfl ioL)
    (of_decide_eq_true (by kernel_rfl)) (by unfold Func.isWrapper; first | (rw [if_pos (by decide +kernel)]; kernel_rfl) | (rw [if_neg (by decide +kernel)]; exact ⟨rfl, rfl⟩))
    (fun os started H enc _ => lifted_l_FnCopiedAll os started H enc)
end Go.Proofs.Ythongcikinnjlaa
