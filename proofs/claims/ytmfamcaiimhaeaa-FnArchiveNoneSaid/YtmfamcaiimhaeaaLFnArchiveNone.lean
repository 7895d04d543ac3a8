/-
  FnArchiveNone: for every input the law returns true, and each argument reads afterwards as it read before. No conditions.
-/
import Derived.Test.YtmfamcaiimhaeaaRows
import Derived.Test.YtmfamcaiimhaeaaT
import Derived.Test.YtmfamcaiimhaeaaSa
import Derived.Test.YtmfamcaiimhaeaaSb
import Derived.Test.YtmfamcaiimhaeaaSf
import Derived.Test.YtmfamcaiimhaeaaSg
import Derived.Test.YtmfamcaiimhaeaaSi
import Derived.Test.YtmfamcaiimhaeaaSj
import Derived.Test.YtmfamcaiimhaeaaSk
import Derived.Test.YtmfamcaiimhaeaaSl
import Derived.Test.YtmfamcaiimhaeaaSm
import Derived.Test.YtmfamcaiimhaeaaSn
import Derived.Test.YtmfamcaiimhaeaaSo
import Derived.Test.YtmfamcaiimhaeaaSp
import Derived.Test.YtmfamcaiimhaeaaSr
import Derived.Test.YtmfamcaiimhaeaaSs
set_option linter.unusedVariables false
set_option linter.unusedSimpArgs false
open Go Go.Ax Go.Mx Go.ChangeShapes Go.WideShapes Go.RowKit Go.ChangeAt
namespace Go.Proofs.Ytmfamcaiimhaeaa
def V_l_FnArchiveNone : Prop :=
  ∀ (l0 l1 : List UInt8), (↑(List.length l0) : Int) ≤ (9223372036854775807 : Int) ∧ (↑(List.length l1) : Int) ≤ (9223372036854775807 : Int) → (1048576 < (↑(List.length l0) : Int) → true = true) ∧ (¬1048576 < (↑(List.length l0) : Int) → (1048576 <
    (↑(List.length l1) : Int) → true = true) ∧ (¬1048576 < (↑(List.length l1) : Int) → (↑(List.length l0) : Int) ≤ 1099511627776 ∧ ∀ (l2 : List (Int × List Int)), (↑(List.length l2) : Int) ≤ 7 ∧ szE l2 ≤ 5000 → szE l2 ≤ 2000000 ∧ (true = entOk
    l2 → szE l2 ≤ 2000000 ∧ (true = entOk l2 → szE [] ≤ 2000000 ∧ ∀ (l3 : List Int), (true = entOk [] ∧ l3 = Option.getD (archD []) [] → 0 ≤ (↑(List.length l1) : Int) ∧ (0 : Int) < 20 ∧ ((-9223372036854775808 : Int) ≤ 1 + (↑(List.length l1) : Int) % 20 ∧ 1 +
    (↑(List.length l1) : Int) % (20 : Int) ≤ (9223372036854775807 : Int)) ∧ (↑(List.length l3) : Int) ≤ 1099511627776 ∧ ∀ (l4 : List Int), (true = Option.isSome (getD' l3 (1 + (↑(List.length l1) : Int) % 20)) ∧ l4 = Option.getD (getD' l3 (1 + (↑(List.length l1)
    : Int) % 20)) [] → false = true) ∧ (false = Option.isSome (getD' l3 (1 + (↑(List.length l1) : Int) % 20)) ∧ l4 = Option.getD (getD' l3 (1 + (↑(List.length l1) : Int) % 20)) [] → ((↑(List.length l3) : Int) ≤ 1099511627776 ∧ (↑(List.length
    [0]) : Int) ≤ 1099511627776) ∧ (true = decide (l3 = [0]) → true = true) ∧ (false = decide (l3 = [0]) → false = true))) ∧ (false = entOk [] ∧ l3 = Option.getD (archD []) [] → 0 ≤ (↑(List.length l1) : Int) ∧ (0 : Int) < 20 ∧ ((-9223372036854775808 : Int) ≤ 1
    + (↑(List.length l1) : Int) % 20 ∧ 1 + (↑(List.length l1) : Int) % (20 : Int) ≤ (9223372036854775807 : Int)) ∧ (↑(List.length l3) : Int) ≤ 1099511627776 ∧ ∀ (l5 : List Int), (true = Option.isSome (getD' l3 (1 + (↑(List.length l1) : Int) % 20)) ∧ l5 =
    Option.getD (getD' l3 (1 + (↑(List.length l1) : Int) % 20)) [] → false = true) ∧ (false = Option.isSome (getD' l3 (1 + (↑(List.length l1) : Int) % 20)) ∧ l5 = Option.getD (getD' l3 (1 + (↑(List.length l1) : Int) % 20)) [] → false = true))) ∧
    (false = entOk l2 → false = true)) ∧ (false = entOk l2 → szE l2 ≤ 2000000 ∧ (true = entOk l2 → false = true) ∧ (false = entOk l2 → szE [] ≤ 2000000 ∧ ∀ (l6 : List Int), (true = entOk [] ∧ l6 = Option.getD (archD []) [] → 0 ≤ (↑(List.length
    l1) : Int) ∧ (0 : Int) < 20 ∧ ((-9223372036854775808 : Int) ≤ 1 + (↑(List.length l1) : Int) % 20 ∧ 1 + (↑(List.length l1) : Int) % (20 : Int) ≤ (9223372036854775807 : Int)) ∧ (↑(List.length l6) : Int) ≤ 1099511627776 ∧ ∀ (l7 : List Int), (true = Option.isSome (getD' l6 (1
    + (↑(List.length l1) : Int) % 20)) ∧ l7 = Option.getD (getD' l6 (1 + (↑(List.length l1) : Int) % 20)) [] → false = true) ∧ (false = Option.isSome (getD' l6 (1 + (↑(List.length l1) : Int) % 20)) ∧ l7 = Option.getD (getD' l6 (1 +
    (↑(List.length l1) : Int) % 20)) [] → ((↑(List.length l6) : Int) ≤ 1099511627776 ∧ (↑(List.length [0]) : Int) ≤ 1099511627776) ∧ (true = decide (l6 = [0]) → (0 < (↑(List.length l2) : Int) → true = true) ∧ (¬0 < (↑(List.length l2) : Int) →
    false = true)) ∧ (false = decide (l6 = [0]) → false = true))) ∧ (false = entOk [] ∧ l6 = Option.getD (archD []) [] → 0 ≤ (↑(List.length l1) : Int) ∧ (0 : Int) < 20 ∧ ((-9223372036854775808 : Int) ≤ 1 + (↑(List.length l1) : Int) % 20 ∧ 1 + (↑(List.length l1)
    : Int) % (20 : Int) ≤ (9223372036854775807 : Int)) ∧ (↑(List.length l6) : Int) ≤ 1099511627776 ∧ ∀ (l8 : List Int), (true = Option.isSome (getD' l6 (1 + (↑(List.length l1) : Int) % 20)) ∧ l8 = Option.getD (getD' l6 (1 + (↑(List.length l1) : Int) % 20)) [] →
    false = true) ∧ (false = Option.isSome (getD' l6 (1 + (↑(List.length l1) : Int) % 20)) ∧ l8 = Option.getD (getD' l6 (1 + (↑(List.length l1) : Int) % 20)) [] → false = true))))))
theorem v_l_FnArchiveNone : V_l_FnArchiveNone := by
  unfold V_l_FnArchiveNone
  rintro code more ⟨hz, hz'⟩
  refine ⟨fun _ => rfl, fun hc => ⟨fun _ => rfl, fun hm => ⟨by omega, ?_⟩⟩⟩
  rintro es ⟨h7, h5⟩
  rw [arch_nil, entOk_nil]
  have hg : getD' [0] (1 + (more.length : Int) % 20) = none := by rw [getD'_some open_nil]; rfl
  have hsz : szE [] = 0 := rfl
  have hes : es = [] → entOk es = true := fun h => by rw [h]; rfl
  have hes' : ¬ 0 < (es.length : Int) → entOk es = true := fun h => hes (List.eq_nil_of_length_eq_zero (by omega))
  simp only [Option.getD_some, hsz]
  repeat' (first | apply And.intro | (rintro _ rfl) | (rintro _ _ ⟨rfl, rfl⟩) | (intro (h : _ = _ ∧ _ = _); obtain ⟨_, rfl⟩ := h) | (intro _ (h : _ = _ ∧ _ ≤ _); obtain ⟨rfl, _⟩ := h) | intro _)
  all_goals (first | omega | with_reducible rfl | trivial | contradiction | (simp only [marks_len, marks3_len]; omega) | (rename_i h; simp [marks_len, marks3_len] at h; done) | (rename_i h; simp [marks_len, marks3_len] at h; omega) | (rename_i h _; simp at h; done) | (rename_i h _ _; simp at h; done) | grind)
def S_l_FnArchiveNone : FSpec where
  args := [.sc (.sl .u8), .sc (.sl .u8)]
  outs := [.sc .bool]
  pre := fun a => match a with
    | [.sc (.sl .u8 code), .sc (.sl .u8 more)] => (((code).length : Nat) : Int) ≤ 9223372036854775807 ∧ (((more).length : Nat) : Int) ≤ 9223372036854775807
    | _ => False
  post := fun a r => match a, r with
    | [.sc (.sl .u8 code), .sc (.sl .u8 more)], [.sc (.bool r)] => r = true
    | _, _ => False
  kept := false
theorem m_l_FnArchiveNone : Meets Try.prog 3 S_l_FnArchiveNone :=
  meets tok mixed Try.func3 (by kernel_rfl) (l := [(23, S_s_DrawEntriesValid), (24, S_i_EntriesValid), (25, S_s_EntriesValid), (26, S_i_ArchivePack), (27, S_i_ArchiveGet), (28, S_l_sameInts)]) ⟨m_s_DrawEntriesValid, m_i_EntriesValid, m_s_EntriesValid, m_i_ArchivePack, m_i_ArchiveGet, m_l_sameInts, trivial⟩ (ann := []) v_l_FnArchiveNone (by kernel_rfl)
theorem a_l_FnArchiveNone : LawOf Try.prog Try.f3.params.toList S_l_FnArchiveNone where
  args := by kernel_rfl
  outs := rfl
  pre := AKs.all_iff.1 (show AKs.all S_l_FnArchiveNone.args (fun ds => bnds ds → S_l_FnArchiveNone.pre ds) from fun x0 x1 h => ⟨h.1, h.2.1⟩)
  post := AKs.all_iff.1 (show AKs.all S_l_FnArchiveNone.args (fun ds => ∀ b, S_l_FnArchiveNone.post ds [.sc (.bool b)] → b = true) from fun x0 x1 _ h => h)
set_option maxRecDepth 100000 in
theorem lifted_l_FnArchiveNone (os : Os) (started : os.Started) (H : Type) (enc : TypeId × Value → H) :
    ReturnsInHanded {} Try.checked os 3 .any (Rows.fnArchiveNoneSpec.pre6 enc Try.prog Try.f3 Rows.fnArchiveNoneRow.domain false) (Rows.fnArchiveNoneSpec.post enc Try.prog Try.f3 false true false false) :=
  law_lifted (C := Try.checked) (F := S_l_FnArchiveNone) (by kernel_rfl) started (by kernel_rfl) Try.func3
    (ChangeSpec.witness6 (enc := enc) (C := Try.checked) false ⟨#[], #[.slice none 0 0, .slice none 0 0], []⟩ 8 (by kernel_rfl) (by kernel_rfl) (by kernel_rfl) (by kernel_rfl))
    m_l_FnArchiveNone a_l_FnArchiveNone (by kernel_rfl) (of_decide_eq_true (by kernel_rfl)) rfl (fun ds h => by match ds, h with | [d0, d1], _ => rfl) (by kernel_rfl) Try.underlying4
theorem facts_FnArchiveNone : ∀ P : Program, P = Try.prog → P.initOrder.toList = ioNums.map Char.ofNat → joinedFacts P 3 Try.f3 Rows.fnArchiveNoneSpec Rows.fnArchiveNoneRow = true := by
  intro P hP h
  have h1 := io1 P hP h
  have h2 := io2 P hP h
  have h3 := io3 P hP h
  unfold joinedFacts
  rw [h1, h2, h3]
  subst hP
  show (_ : Bool) = true
  kernel_rfl
theorem proved_FnArchiveNone : Rows.FnArchiveNoneSaid :=
  OpenClaim.holds_of_wide 3 Try.f3 rfl rfl rfl rfl rfl rfl rfl ⟨rfl, rfl, rfl, rfl, rfl⟩ rfl rfl rfl rfl rfl (by kernel_rfl) Try.func3 (facts_FnArchiveNone _ rfl ioL)
    (of_decide_eq_true (by kernel_rfl)) (by unfold Func.isWrapper; first | (rw [if_pos (by decide +kernel)]; kernel_rfl) | (rw [if_neg (by decide +kernel)]; exact ⟨rfl, rfl⟩))
    (fun os started H enc _ => lifted_l_FnArchiveNone os started H enc)
end Go.Proofs.Ytmfamcaiimhaeaa
