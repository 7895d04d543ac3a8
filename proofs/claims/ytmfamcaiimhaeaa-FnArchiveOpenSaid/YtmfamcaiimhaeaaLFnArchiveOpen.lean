/-
  FnArchiveOpen: for every input the law returns true, and each argument reads afterwards as it read before. No conditions.
-/
import Derived.Test.YtmfamcaiimhaeaaRows
import Derived.Test.YtmfamcaiimhaeaaT
import Derived.Test.YtmfamcaiimhaeaaSa
import Derived.Test.YtmfamcaiimhaeaaSb
import Derived.Test.YtmfamcaiimhaeaaSf
import Derived.Test.YtmfamcaiimhaeaaSg
import Derived.Test.YtmfamcaiimhaeaaSi
import Derived.Test.YtmfamcaiimhaeaaSj
import Derived.Test.YtmfamcaiimhaeaaSk
import Derived.Test.YtmfamcaiimhaeaaSl
import Derived.Test.YtmfamcaiimhaeaaSm
import Derived.Test.YtmfamcaiimhaeaaSn
import Derived.Test.YtmfamcaiimhaeaaSo
import Derived.Test.YtmfamcaiimhaeaaSp
import Derived.Test.YtmfamcaiimhaeaaSr
import Derived.Test.YtmfamcaiimhaeaaSs
set_option linter.unusedVariables false
set_option linter.unusedSimpArgs false
open Go Go.Ax Go.Mx Go.ChangeShapes Go.WideShapes Go.RowKit Go.ChangeAt
namespace Go.Proofs.Ytmfamcaiimhaeaa
def V_l_FnArchiveOpen : Prop :=
  ∀ (l0 : List UInt8), (↑(List.length l0) : Int) ≤ (9223372036854775807 : Int) → (1048576 < (↑(List.length l0) : Int) → true = true) ∧ (¬1048576 < (↑(List.length l0) : Int) → (↑(List.length l0) : Int) ≤ 1099511627776 ∧ ∀ (l1 : List Int),
    (↑(List.length l1) : Int) ≤ 5001 → (↑(List.length l1) : Int) ≤ 1099511627776 ∧ ∀ (l2 : List (Int × List Int)), (true = Option.isSome (aopenD l1) ∧ l2 = Option.getD (aopenD l1) [] → (↑(List.length l1) : Int) ≤ 1099511627776 ∧ ∀ (l3 : List
    (Int × List Int)), (true = Option.isSome (aopenD l1) ∧ l3 = Option.getD (aopenD l1) [] → (szE l2 ≤ 2000000 ∧ szE l3 ≤ 2000000) ∧ (true = decide (l2 = l3) → szE l2 ≤ 2000000 ∧ ∀ (l4 : List Int), (true = entOk l2 ∧ l4 = Option.getD (archD l2)
    [] → ((↑(List.length l4) : Int) ≤ 1099511627776 ∧ (↑(List.length l1) : Int) ≤ 1099511627776) ∧ (true = decide (l4 = l1) → szE l2 ≤ 2000000 ∧ (true = entOk l2 → true = true) ∧ (false = entOk l2 → false = true)) ∧ (false = decide (l4 = l1) →
    false = true)) ∧ (false = entOk l2 ∧ l4 = Option.getD (archD l2) [] → false = true)) ∧ (false = decide (l2 = l3) → (szE l2 ≤ 2000000 ∧ szE l3 ≤ 2000000) ∧ (true = decide (l2 = l3) → true = true) ∧ (false = decide (l2 = l3) → false = true)))
    ∧ (false = Option.isSome (aopenD l1) ∧ l3 = Option.getD (aopenD l1) [] → false = true)) ∧ (false = Option.isSome (aopenD l1) ∧ l2 = Option.getD (aopenD l1) [] → (↑(List.length l1) : Int) ≤ 1099511627776 ∧ ∀ (l5 : List (Int × List Int)),
    (true = Option.isSome (aopenD l1) ∧ l5 = Option.getD (aopenD l1) [] → false = true) ∧ (false = Option.isSome (aopenD l1) ∧ l5 = Option.getD (aopenD l1) [] → (szE l2 ≤ 2000000 ∧ szE l5 ≤ 2000000) ∧ (true = decide (l2 = l5) → (szE l2 ≤ 2000000
    ∧ szE l5 ≤ 2000000) ∧ (true = decide (l2 = l5) → true = true) ∧ (false = decide (l2 = l5) → false = true)) ∧ (false = decide (l2 = l5) → (szE l2 ≤ 2000000 ∧ szE l5 ≤ 2000000) ∧ (true = decide (l2 = l5) → true = true) ∧ (false = decide (l2 =
    l5) → false = true)))))
theorem v_l_FnArchiveOpen : V_l_FnArchiveOpen := by
  unfold V_l_FnArchiveOpen
  intro code hz
  refine ⟨fun _ => rfl, fun hc => ⟨by omega, ?_⟩⟩
  intro b hb
  refine ⟨by omega, ?_⟩
  cases ho : aopenD b with
  | none =>
    repeat' (first | apply And.intro | (rintro _ rfl) | (rintro _ _ ⟨rfl, rfl⟩) | (intro (h : _ = _ ∧ _ = _); obtain ⟨_, rfl⟩ := h) | (intro _ (h : _ = _ ∧ _ ≤ _); obtain ⟨rfl, _⟩ := h) | intro _)
    all_goals (first | omega | with_reducible rfl | trivial | contradiction | (simp only [marks_len, marks3_len]; omega) | (rename_i h; simp [marks_len, marks3_len] at h; done) | (rename_i h; simp [marks_len, marks3_len] at h; omega) | (rename_i h _; simp at h; done) | (rename_i h _ _; simp at h; done) | grind)
  | some es =>
    obtain ⟨f1, f2, f3, f4, f5⟩ := aopen_facts ho
    have hA : archD es = some b := aopen_iff.1 ho
    repeat' (first | apply And.intro | (rintro _ rfl) | (rintro _ _ ⟨rfl, rfl⟩) | (intro (h : _ = _ ∧ _ = _); obtain ⟨_, rfl⟩ := h) | (intro _ (h : _ = _ ∧ _ ≤ _); obtain ⟨rfl, _⟩ := h) | intro _)
    all_goals (first | omega | with_reducible rfl | trivial | contradiction | (simp only [marks_len, marks3_len]; omega) | (rename_i h; simp [marks_len, marks3_len] at h; done) | (rename_i h; simp [marks_len, marks3_len] at h; omega) | (rename_i h _; simp at h; done) | (rename_i h _ _; simp at h; done) | grind)
def S_l_FnArchiveOpen : FSpec where
  args := [.sc (.sl .u8)]
  outs := [.sc .bool]
  pre := fun a => match a with
    | [.sc (.sl .u8 code)] => (((code).length : Nat) : Int) ≤ 9223372036854775807
    | _ => False
  post := fun a r => match a, r with
    | [.sc (.sl .u8 code)], [.sc (.bool r)] => r = true
    | _, _ => False
  kept := false
theorem m_l_FnArchiveOpen : Meets Try.prog 20 S_l_FnArchiveOpen :=
  meets tok mixed Try.func20 (by kernel_rfl) (l := [(24, S_i_EntriesValid), (26, S_i_ArchivePack), (28, S_l_sameInts), (53, S_i_ArchiveOpen), (54, S_l_sameEntries), (56, S_s_ArchiveOpen), (58, S_s_DrawArchiveOpen)]) ⟨m_i_EntriesValid, m_i_ArchivePack, m_l_sameInts, m_i_ArchiveOpen, m_l_sameEntries, m_s_ArchiveOpen, m_s_DrawArchiveOpen, trivial⟩ (ann := []) v_l_FnArchiveOpen (by kernel_rfl)
theorem a_l_FnArchiveOpen : LawOf Try.prog Try.f20.params.toList S_l_FnArchiveOpen where
  args := by kernel_rfl
  outs := rfl
  pre := AKs.all_iff.1 (show AKs.all S_l_FnArchiveOpen.args (fun ds => bnds ds → S_l_FnArchiveOpen.pre ds) from fun x0 h => h.1)
  post := AKs.all_iff.1 (show AKs.all S_l_FnArchiveOpen.args (fun ds => ∀ b, S_l_FnArchiveOpen.post ds [.sc (.bool b)] → b = true) from fun x0 _ h => h)
set_option maxRecDepth 100000 in
theorem lifted_l_FnArchiveOpen (os : Os) (started : os.Started) (H : Type) (enc : TypeId × Value → H) :
    ReturnsInHanded {} Try.checked os 20 .any (Rows.fnArchiveOpenSpec.pre6 enc Try.prog Try.f20 Rows.fnArchiveOpenRow.domain false) (Rows.fnArchiveOpenSpec.post enc Try.prog Try.f20 false true false false) :=
  law_lifted (C := Try.checked) (F := S_l_FnArchiveOpen) (by kernel_rfl) started (by kernel_rfl) Try.func20
    (ChangeSpec.witness6 (enc := enc) (C := Try.checked) false ⟨#[], #[.slice none 0 0], []⟩ 8 (by kernel_rfl) (by kernel_rfl) (by kernel_rfl) (by kernel_rfl))
    m_l_FnArchiveOpen a_l_FnArchiveOpen (by kernel_rfl) (of_decide_eq_true (by kernel_rfl)) rfl (fun ds h => by match ds, h with | [d0], _ => rfl) (by kernel_rfl) Try.underlying4
theorem facts_FnArchiveOpen : ∀ P : Program, P = Try.prog → P.initOrder.toList = ioNums.map Char.ofNat → joinedFacts P 20 Try.f20 Rows.fnArchiveOpenSpec Rows.fnArchiveOpenRow = true := by
  intro P hP h
  have h1 := io1 P hP h
  have h2 := io2 P hP h
  have h3 := io3 P hP h
  unfold joinedFacts
  rw [h1, h2, h3]
  subst hP
  show (_ : Bool) = true
  kernel_rfl
theorem proved_FnArchiveOpen : Rows.FnArchiveOpenSaid :=
  OpenClaim.holds_of_wide 20 Try.f20 rfl rfl rfl rfl rfl rfl rfl ⟨rfl, rfl, rfl, rfl, rfl⟩ rfl rfl rfl rfl rfl (by kernel_rfl) Try.func20 (facts_FnArchiveOpen _ rfl ioL)
    (of_decide_eq_true (by kernel_rfl)) (by unfold Func.isWrapper; first | (rw [if_pos (by decide +kernel)]; kernel_rfl) | (rw [if_neg (by decide +kernel)]; exact ⟨rfl, rfl⟩))
    (fun os started H enc _ => lifted_l_FnArchiveOpen os started H enc)
end Go.Proofs.Ytmfamcaiimhaeaa
