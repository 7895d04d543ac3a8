/-
  FnExactArchiveGet: for every input the law returns true, and each argument reads afterwards as it read before. No conditions.
-/
import Derived.Test.YtmfamcaiimhaeaaRows
import Derived.Test.YtmfamcaiimhaeaaT
import Derived.Test.YtmfamcaiimhaeaaSa
import Derived.Test.YtmfamcaiimhaeaaSg
import Derived.Test.YtmfamcaiimhaeaaSi
import Derived.Test.YtmfamcaiimhaeaaSj
import Derived.Test.YtmfamcaiimhaeaaSk
import Derived.Test.YtmfamcaiimhaeaaSl
import Derived.Test.YtmfamcaiimhaeaaSm
import Derived.Test.YtmfamcaiimhaeaaSn
import Derived.Test.YtmfamcaiimhaeaaSo
import Derived.Test.YtmfamcaiimhaeaaSp
import Derived.Test.YtmfamcaiimhaeaaSr
import Derived.Test.YtmfamcaiimhaeaaSs
set_option linter.unusedVariables false
set_option linter.unusedSimpArgs false
open Go Go.Ax Go.Mx Go.ChangeShapes Go.WideShapes Go.RowKit Go.ChangeAt
namespace Go.Proofs.Ytmfamcaiimhaeaa
def V_l_FnExactArchiveGet : Prop :=
  ∀ (l0 : List Int) (n1 : Int), (↑(List.length l0) : Int) ≤ (9223372036854775807 : Int) → (1048576 < (↑(List.length l0) : Int) → true = true) ∧ (¬1048576 < (↑(List.length l0) : Int) → (↑(List.length l0) : Int) ≤ 1099511627776 ∧ ∀ (l2 : List Int), l2 =
    l0 → (↑(List.length l2) : Int) ≤ 1099511627776 ∧ ∀ (l3 : List Int), (true = Option.isSome (getD' l2 n1) ∧ l3 = Option.getD (getD' l2 n1) [] → (↑(List.length l0) : Int) ≤ 1099511627776 ∧ ∀ (l4 : List Int), l4 = l0 → (↑(List.length l4) : Int)
    ≤ 1099511627776 ∧ ∀ (l5 : List Int), (true = Option.isSome (getD' l4 n1) ∧ l5 = Option.getD (getD' l4 n1) [] → ((↑(List.length l5) : Int) ≤ 1099511627776 ∧ (↑(List.length l3) : Int) ≤ 1099511627776) ∧ (true = decide (l5 = l3) →
    (↑(List.length l0) : Int) ≤ 1099511627776 ∧ ∀ (l6 : List Int), l6 = l0 → ((↑(List.length l4) : Int) ≤ 1099511627776 ∧ (↑(List.length l6) : Int) ≤ 1099511627776) ∧ (true = decide (l4 = l6) → ((↑(List.length l4) : Int) ≤ 1099511627776 ∧ (0 : Int) ≤ 1
    ∧ (1 : Int) ≤ 1000000000000000) ∧ ∀ (l7 : List Int) (n8 : Int), n8 = 1 + (↑(List.length l4) : Int) ∧ l7 = marks 1 (List.length l4) → (n8 < 0 → false = true) ∧ (¬n8 < 0 → ((↑(List.length l5) : Int) ≤ 1099511627776 ∧ (↑(List.length l3) : Int) ≤
    1099511627776) ∧ (true = decide (l5 = l3) → ((↑(List.length l5) : Int) ≤ 1099511627776 ∧ (0 : Int) ≤ 1 ∧ (1 : Int) ≤ 1000000000000000) ∧ ∀ (l9 : List Int) (n10 : Int), n10 = 1 + (↑(List.length l5) : Int) ∧ l9 = marks 1 (List.length l5) → ((↑(List.length l9)
    : Int) ≤ 1099511627776 ∧ (0 : Int) ≤ 1 ∧ (1 : Int) ≤ 1000000000000000) ∧ ∀ (n11 : Int), (n11 = if l9 = marks 1 (List.length l9) then 1 + (↑(List.length l9) : Int) else -1) → (n11 < 0 → false = true) ∧ (¬n11 < 0 → (n11 ≠ n10 → false = true) ∧ (¬n11 ≠ n10 →
    (↑(List.length l0) : Int) ≤ 1099511627776 ∧ ∀ (l12 : List Int), l12 = l0 → (↑(List.length l12) : Int) ≤ 1099511627776 ∧ ∀ (l13 : List Int), (true = Option.isSome (getD' l12 n1) ∧ l13 = Option.getD (getD' l12 n1) [] → ((↑(List.length l13) :
    Int) ≤ 1099511627776 ∧ (↑(List.length l3) : Int) ≤ 1099511627776) ∧ (true = decide (l13 = l3) → ((↑(List.length l9) : Int) ≤ 1099511627776 ∧ (0 : Int) ≤ 1 ∧ (1 : Int) ≤ 1000000000000000) ∧ ∀ (n14 : Int), (n14 = if l9 = marks 1 (List.length l9) then 1 +
    (↑(List.length l9) : Int) else -1) → (n14 < 0 → false = true) ∧ (¬n14 < 0 → (n14 ≠ n10 → false = true) ∧ (¬n14 ≠ n10 → true = true))) ∧ (false = decide (l13 = l3) → false = true)) ∧ (false = Option.isSome (getD' l12 n1) ∧ l13 = Option.getD
    (getD' l12 n1) [] → ((↑(List.length l13) : Int) ≤ 1099511627776 ∧ (↑(List.length l3) : Int) ≤ 1099511627776) ∧ (true = decide (l13 = l3) → false = true) ∧ (false = decide (l13 = l3) → false = true))))) ∧ (false = decide (l5 = l3) → false =
    true))) ∧ (false = decide (l4 = l6) → false = true)) ∧ (false = decide (l5 = l3) → false = true)) ∧ (false = Option.isSome (getD' l4 n1) ∧ l5 = Option.getD (getD' l4 n1) [] → ((↑(List.length l5) : Int) ≤ 1099511627776 ∧ (↑(List.length l3) :
    Int) ≤ 1099511627776) ∧ (true = decide (l5 = l3) → false = true) ∧ (false = decide (l5 = l3) → false = true))) ∧ (false = Option.isSome (getD' l2 n1) ∧ l3 = Option.getD (getD' l2 n1) [] → (↑(List.length l0) : Int) ≤ 1099511627776 ∧ ∀ (l15 :
    List Int), l15 = l0 → (↑(List.length l15) : Int) ≤ 1099511627776 ∧ ∀ (l16 : List Int), (true = Option.isSome (getD' l15 n1) ∧ l16 = Option.getD (getD' l15 n1) [] → ((↑(List.length l16) : Int) ≤ 1099511627776 ∧ (↑(List.length l3) : Int) ≤
    1099511627776) ∧ (true = decide (l16 = l3) → false = true) ∧ (false = decide (l16 = l3) → false = true)) ∧ (false = Option.isSome (getD' l15 n1) ∧ l16 = Option.getD (getD' l15 n1) [] → ((↑(List.length l16) : Int) ≤ 1099511627776 ∧
    (↑(List.length l3) : Int) ≤ 1099511627776) ∧ (true = decide (l16 = l3) → (↑(List.length l0) : Int) ≤ 1099511627776 ∧ ∀ (l17 : List Int), l17 = l0 → ((↑(List.length l15) : Int) ≤ 1099511627776 ∧ (↑(List.length l17) : Int) ≤ 1099511627776) ∧
    (true = decide (l15 = l17) → ((↑(List.length l15) : Int) ≤ 1099511627776 ∧ (0 : Int) ≤ 1 ∧ (1 : Int) ≤ 1000000000000000) ∧ ∀ (l18 : List Int) (n19 : Int), n19 = 1 + (↑(List.length l15) : Int) ∧ l18 = marks 1 (List.length l15) → (n19 < 0 → false = true) ∧
    (¬n19 < 0 → ((↑(List.length l16) : Int) ≤ 1099511627776 ∧ (↑(List.length l3) : Int) ≤ 1099511627776) ∧ (true = decide (l16 = l3) → ((↑(List.length l16) : Int) ≤ 1099511627776 ∧ (0 : Int) ≤ 1 ∧ (1 : Int) ≤ 1000000000000000) ∧ ∀ (l20 : List Int) (n21 : Int),
    n21 = 1 + (↑(List.length l16) : Int) ∧ l20 = marks 1 (List.length l16) → ((↑(List.length l20) : Int) ≤ 1099511627776 ∧ (0 : Int) ≤ 1 ∧ (1 : Int) ≤ 1000000000000000) ∧ ∀ (n22 : Int), (n22 = if l20 = marks 1 (List.length l20) then 1 + (↑(List.length l20) :
    Int) else -1) → (n22 < 0 → false = true) ∧ (¬n22 < 0 → (n22 ≠ n21 → false = true) ∧ (¬n22 ≠ n21 → (↑(List.length l0) : Int) ≤ 1099511627776 ∧ ∀ (l23 : List Int), l23 = l0 → (↑(List.length l23) : Int) ≤ 1099511627776 ∧ ∀ (l24 : List Int),
    (true = Option.isSome (getD' l23 n1) ∧ l24 = Option.getD (getD' l23 n1) [] → ((↑(List.length l24) : Int) ≤ 1099511627776 ∧ (↑(List.length l3) : Int) ≤ 1099511627776) ∧ (true = decide (l24 = l3) → false = true) ∧ (false = decide (l24 = l3) →
    false = true)) ∧ (false = Option.isSome (getD' l23 n1) ∧ l24 = Option.getD (getD' l23 n1) [] → ((↑(List.length l24) : Int) ≤ 1099511627776 ∧ (↑(List.length l3) : Int) ≤ 1099511627776) ∧ (true = decide (l24 = l3) → ((↑(List.length l20) : Int)
    ≤ 1099511627776 ∧ (0 : Int) ≤ 1 ∧ (1 : Int) ≤ 1000000000000000) ∧ ∀ (n25 : Int), (n25 = if l20 = marks 1 (List.length l20) then 1 + (↑(List.length l20) : Int) else -1) → (n25 < 0 → false = true) ∧ (¬n25 < 0 → (n25 ≠ n21 → false = true) ∧ (¬n25 ≠ n21 → true
    = true))) ∧ (false = decide (l24 = l3) → false = true))))) ∧ (false = decide (l16 = l3) → false = true))) ∧ (false = decide (l15 = l17) → false = true)) ∧ (false = decide (l16 = l3) → false = true))))
theorem v_l_FnExactArchiveGet : V_l_FnExactArchiveGet := by
  unfold V_l_FnExactArchiveGet
  intro a n ha
  have hg : ((getD' a n).getD []).length ≤ 40 := by
    cases h : getD' a n with
    | none => simp
    | some l => exact getD'_len h
  clear ha
  repeat' (first | apply And.intro | (rintro _ rfl) | (rintro _ _ ⟨rfl, rfl⟩) | (intro (h : _ = _ ∧ _ = _); obtain ⟨_, rfl⟩ := h) | (intro _ (h : _ = _ ∧ _ ≤ _); obtain ⟨rfl, _⟩ := h) | intro _)
  all_goals (first | omega | with_reducible rfl | trivial | contradiction | (simp only [marks_len, marks3_len]; omega) | (rename_i h; simp [marks_len, marks3_len] at h; done) | (rename_i h; simp [marks_len, marks3_len] at h; omega) | (rename_i h _; simp at h; done) | (rename_i h _ _; simp at h; done) | grind)
def S_l_FnExactArchiveGet : FSpec where
  args := [.sc (.sl .int), .sc .int]
  outs := [.sc .bool]
  pre := fun a => match a with
    | [.sc (.sl .int aBytes), .sc (.int _ aName)] => (((aBytes).length : Nat) : Int) ≤ 9223372036854775807
    | _ => False
  post := fun a r => match a, r with
    | [.sc (.sl .int aBytes), .sc (.int _ aName)], [.sc (.bool r)] => r = true
    | _, _ => False
  kept := false
theorem m_l_FnExactArchiveGet : Meets Try.prog 18 S_l_FnExactArchiveGet :=
  meets tok mixed Try.func18 (by kernel_rfl) (l := [(27, S_i_ArchiveGet), (30, S_l_toIntS), (32, S_l_eqIntS), (37, S_l_markIntS), (38, S_l_heldIntS), (55, S_s_ArchiveGet)]) ⟨m_i_ArchiveGet, m_l_toIntS, m_l_eqIntS, m_l_markIntS, m_l_heldIntS, m_s_ArchiveGet, trivial⟩ (ann := []) v_l_FnExactArchiveGet (by kernel_rfl)
theorem a_l_FnExactArchiveGet : LawOf Try.prog Try.f18.params.toList S_l_FnExactArchiveGet where
  args := by kernel_rfl
  outs := rfl
  pre := AKs.all_iff.1 (show AKs.all S_l_FnExactArchiveGet.args (fun ds => bnds ds → S_l_FnExactArchiveGet.pre ds) from fun x0 x1 h => h.1)
  post := AKs.all_iff.1 (show AKs.all S_l_FnExactArchiveGet.args (fun ds => ∀ b, S_l_FnExactArchiveGet.post ds [.sc (.bool b)] → b = true) from fun x0 x1 _ h => h)
set_option maxRecDepth 100000 in
theorem lifted_l_FnExactArchiveGet (os : Os) (started : os.Started) (H : Type) (enc : TypeId × Value → H) :
    ReturnsInHanded {} Try.checked os 18 .any (Rows.fnExactArchiveGetSpec.pre6 enc Try.prog Try.f18 Rows.fnExactArchiveGetRow.domain false) (Rows.fnExactArchiveGetSpec.post enc Try.prog Try.f18 false true false false) :=
  law_lifted (C := Try.checked) (F := S_l_FnExactArchiveGet) (by kernel_rfl) started (by kernel_rfl) Try.func18
    (ChangeSpec.witness6 (enc := enc) (C := Try.checked) false ⟨#[], #[.slice none 0 0, .int .i64 0], []⟩ 8 (by kernel_rfl) (by kernel_rfl) (by kernel_rfl) (by kernel_rfl))
    m_l_FnExactArchiveGet a_l_FnExactArchiveGet (by kernel_rfl) (of_decide_eq_true (by kernel_rfl)) rfl (fun ds h => by match ds, h with | [d0, d1], _ => rfl) (by kernel_rfl) Try.underlying4
theorem facts_FnExactArchiveGet : ∀ P : Program, P = Try.prog → P.initOrder.toList = ioNums.map Char.ofNat → joinedFacts P 18 Try.f18 Rows.fnExactArchiveGetSpec Rows.fnExactArchiveGetRow = true := by
  intro P hP h
  have h1 := io1 P hP h
  have h2 := io2 P hP h
  have h3 := io3 P hP h
  unfold joinedFacts
  rw [h1, h2, h3]
  subst hP
  show (_ : Bool) = true
  kernel_rfl
theorem proved_FnExactArchiveGet : Rows.FnExactArchiveGetSaid :=
  OpenClaim.holds_of_wide 18 Try.f18 rfl rfl rfl rfl rfl rfl rfl ⟨rfl, rfl, rfl, rfl, rfl⟩ rfl rfl rfl rfl rfl (by kernel_rfl) Try.func18 (facts_FnExactArchiveGet _ rfl ioL)
    (of_decide_eq_true (by kernel_rfl)) (by unfold Func.isWrapper; first | (rw [if_pos (by decide +kernel)]; kernel_rfl) | (rw [if_neg (by decide +kernel)]; exact ⟨rfl, rfl⟩))
    (fun os started H enc _ => lifted_l_FnExactArchiveGet os started H enc)
end Go.Proofs.Ytmfamcaiimhaeaa
