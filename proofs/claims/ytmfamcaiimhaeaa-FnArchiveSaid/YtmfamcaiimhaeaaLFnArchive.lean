/-
  FnArchive: for every input the law returns true, and each argument reads afterwards as it read before. No conditions.
-/
import Derived.Test.YtmfamcaiimhaeaaRows
import Derived.Test.YtmfamcaiimhaeaaT
import Derived.Test.YtmfamcaiimhaeaaSa
import Derived.Test.YtmfamcaiimhaeaaSb
import Derived.Test.YtmfamcaiimhaeaaSf
import Derived.Test.YtmfamcaiimhaeaaSg
import Derived.Test.YtmfamcaiimhaeaaSi
import Derived.Test.YtmfamcaiimhaeaaSj
import Derived.Test.YtmfamcaiimhaeaaSk
import Derived.Test.YtmfamcaiimhaeaaSl
import Derived.Test.YtmfamcaiimhaeaaSm
import Derived.Test.YtmfamcaiimhaeaaSn
import Derived.Test.YtmfamcaiimhaeaaSo
import Derived.Test.YtmfamcaiimhaeaaSp
import Derived.Test.YtmfamcaiimhaeaaSr
import Derived.Test.YtmfamcaiimhaeaaSs
set_option linter.unusedVariables false
set_option linter.unusedSimpArgs false
open Go Go.Ax Go.Mx Go.ChangeShapes Go.WideShapes Go.RowKit Go.ChangeAt
namespace Go.Proofs.Ytmfamcaiimhaeaa
def V_l_FnArchive : Prop :=
  ∀ (l0 : List UInt8), (↑(List.length l0) : Int) ≤ (9223372036854775807 : Int) → (1048576 < (↑(List.length l0) : Int) → true = true) ∧ (¬1048576 < (↑(List.length l0) : Int) → (↑(List.length l0) : Int) ≤ 1099511627776 ∧ ∀ (l1 : List (Int × List Int)),
    (↑(List.length l1) : Int) ≤ 7 ∧ szE l1 ≤ 5000 → szE l1 ≤ 2000000 ∧ ∀ (l2 : List Int), (true = entOk l1 ∧ l2 = Option.getD (archD l1) [] → szE l1 ≤ 2000000 ∧ ∀ (l3 : List Int), (true = entOk l1 ∧ l3 = Option.getD (archD l1) [] →
    ((↑(List.length l2) : Int) ≤ 1099511627776 ∧ (↑(List.length l3) : Int) ≤ 1099511627776) ∧ (true = decide (l2 = l3) → (↑(List.length l2) : Int) ≤ 1099511627776 ∧ ∀ (l4 : List (Int × List Int)), (true = Option.isSome (aopenD l2) ∧ l4 =
    Option.getD (aopenD l2) [] → (szE l4 ≤ 2000000 ∧ szE l1 ≤ 2000000) ∧ (true = decide (l4 = l1) → true = true) ∧ (false = decide (l4 = l1) → false = true)) ∧ (false = Option.isSome (aopenD l2) ∧ l4 = Option.getD (aopenD l2) [] → false = true))
    ∧ (false = decide (l2 = l3) → ((↑(List.length l2) : Int) ≤ 1099511627776 ∧ (↑(List.length l3) : Int) ≤ 1099511627776) ∧ (true = decide (l2 = l3) → true = true) ∧ (false = decide (l2 = l3) → false = true))) ∧ (false = entOk l1 ∧ l3 =
    Option.getD (archD l1) [] → false = true)) ∧ (false = entOk l1 ∧ l2 = Option.getD (archD l1) [] → szE l1 ≤ 2000000 ∧ ∀ (l5 : List Int), (true = entOk l1 ∧ l5 = Option.getD (archD l1) [] → false = true) ∧ (false = entOk l1 ∧ l5 = Option.getD
    (archD l1) [] → ((↑(List.length l2) : Int) ≤ 1099511627776 ∧ (↑(List.length l5) : Int) ≤ 1099511627776) ∧ (true = decide (l2 = l5) → ((↑(List.length l2) : Int) ≤ 1099511627776 ∧ (↑(List.length l5) : Int) ≤ 1099511627776) ∧ (true = decide (l2
    = l5) → true = true) ∧ (false = decide (l2 = l5) → false = true)) ∧ (false = decide (l2 = l5) → ((↑(List.length l2) : Int) ≤ 1099511627776 ∧ (↑(List.length l5) : Int) ≤ 1099511627776) ∧ (true = decide (l2 = l5) → true = true) ∧ (false =
    decide (l2 = l5) → false = true)))))
theorem v_l_FnArchive : V_l_FnArchive := by
  unfold V_l_FnArchive
  intro code hz
  refine ⟨fun _ => rfl, fun hc => ⟨by omega, ?_⟩⟩
  rintro es ⟨h7, h5⟩
  have hl := archD_len es
  have no : entOk es = false → archD es = none := fun h => if_neg (by rw [h]; simp)
  cases hok : entOk es with
  | false =>
    rw [no hok] at hl ⊢
    repeat' (first | apply And.intro | (rintro _ rfl) | (rintro _ _ ⟨rfl, rfl⟩) | (intro (h : _ = _ ∧ _ = _); obtain ⟨_, rfl⟩ := h) | (intro _ (h : _ = _ ∧ _ ≤ _); obtain ⟨rfl, _⟩ := h) | intro _)
    all_goals (first | omega | with_reducible rfl | trivial | contradiction | (simp only [marks_len, marks3_len]; omega) | (rename_i h; simp [marks_len, marks3_len] at h; done) | (rename_i h; simp [marks_len, marks3_len] at h; omega) | (rename_i h _; simp at h; done) | (rename_i h _ _; simp at h; done) | grind)
  | true =>
  have hA : archD es = some (packE es) := if_pos hok
  have hO : aopenD (packE es) = some es := aopen_iff.2 hA
  rw [hA] at hl ⊢
  simp only [Option.getD_some] at hl ⊢
  repeat' (first | apply And.intro | (rintro _ rfl) | (rintro _ _ ⟨rfl, rfl⟩) | (intro (h : _ = _ ∧ _ = _); obtain ⟨_, rfl⟩ := h) | (intro _ (h : _ = _ ∧ _ ≤ _); obtain ⟨rfl, _⟩ := h) | intro _)
  all_goals (first | omega | with_reducible rfl | trivial | contradiction | (simp only [marks_len, marks3_len]; omega) | (rename_i h; simp [marks_len, marks3_len] at h; done) | (rename_i h; simp [marks_len, marks3_len] at h; omega) | (rename_i h _; simp at h; done) | (rename_i h _ _; simp at h; done) | grind)
def S_l_FnArchive : FSpec where
  args := [.sc (.sl .u8)]
  outs := [.sc .bool]
  pre := fun a => match a with
    | [.sc (.sl .u8 code)] => (((code).length : Nat) : Int) ≤ 9223372036854775807
    | _ => False
  post := fun a r => match a, r with
    | [.sc (.sl .u8 code)], [.sc (.bool r)] => r = true
    | _, _ => False
  kept := false
theorem m_l_FnArchive : Meets Try.prog 17 S_l_FnArchive :=
  meets tok mixed Try.func17 (by kernel_rfl) (l := [(26, S_i_ArchivePack), (28, S_l_sameInts), (47, S_s_DrawArchivePack), (48, S_s_ArchivePack), (53, S_i_ArchiveOpen), (54, S_l_sameEntries)]) ⟨m_i_ArchivePack, m_l_sameInts, m_s_DrawArchivePack, m_s_ArchivePack, m_i_ArchiveOpen, m_l_sameEntries, trivial⟩ (ann := []) v_l_FnArchive (by kernel_rfl)
theorem a_l_FnArchive : LawOf Try.prog Try.f17.params.toList S_l_FnArchive where
  args := by kernel_rfl
  outs := rfl
  pre := AKs.all_iff.1 (show AKs.all S_l_FnArchive.args (fun ds => bnds ds → S_l_FnArchive.pre ds) from fun x0 h => h.1)
  post := AKs.all_iff.1 (show AKs.all S_l_FnArchive.args (fun ds => ∀ b, S_l_FnArchive.post ds [.sc (.bool b)] → b = true) from fun x0 _ h => h)
set_option maxRecDepth 100000 in
theorem lifted_l_FnArchive (os : Os) (started : os.Started) (H : Type) (enc : TypeId × Value → H) :
    ReturnsInHanded {} Try.checked os 17 .any (Rows.fnArchiveSpec.pre6 enc Try.prog Try.f17 Rows.fnArchiveRow.domain false) (Rows.fnArchiveSpec.post enc Try.prog Try.f17 false true false false) :=
  law_lifted (C := Try.checked) (F := S_l_FnArchive) (by kernel_rfl) started (by kernel_rfl) Try.func17
    (ChangeSpec.witness6 (enc := enc) (C := Try.checked) false ⟨#[], #[.slice none 0 0], []⟩ 8 (by kernel_rfl) (by kernel_rfl) (by kernel_rfl) (by kernel_rfl))
    m_l_FnArchive a_l_FnArchive (by kernel_rfl) (of_decide_eq_true (by kernel_rfl)) rfl (fun ds h => by match ds, h with | [d0], _ => rfl) (by kernel_rfl) Try.underlying4
theorem facts_FnArchive : ∀ P : Program, P = Try.prog → P.initOrder.toList = ioNums.map Char.ofNat → joinedFacts P 17 Try.f17 Rows.fnArchiveSpec Rows.fnArchiveRow = true := by
  intro P hP h
  have h1 := io1 P hP h
  have h2 := io2 P hP h
  have h3 := io3 P hP h
  unfold joinedFacts
  rw [h1, h2, h3]
  subst hP
  show (_ : Bool) = true
  kernel_rfl
theorem proved_FnArchive : Rows.FnArchiveSaid :=
  OpenClaim.holds_of_wide 17 Try.f17 rfl rfl rfl rfl rfl rfl rfl ⟨rfl, rfl, rfl, rfl, rfl⟩ rfl rfl rfl rfl rfl (by kernel_rfl) Try.func17 (facts_FnArchive _ rfl ioL)
    (of_decide_eq_true (by kernel_rfl)) (by unfold Func.isWrapper; first | (rw [if_pos (by decide +kernel)]; kernel_rfl) | (rw [if_neg (by decide +kernel)]; exact ⟨rfl, rfl⟩))
    (fun os started H enc _ => lifted_l_FnArchive os started H enc)
end Go.Proofs.Ytmfamcaiimhaeaa
