/-
  FnSizesEmpty: for every input the law returns true, and each argument reads afterwards as it read before. No conditions.
-/
import Derived.Test.YtmfamcaiimhaeaaRows
import Derived.Test.YtmfamcaiimhaeaaT
import Derived.Test.YtmfamcaiimhaeaaSa
import Derived.Test.YtmfamcaiimhaeaaSb
import Derived.Test.YtmfamcaiimhaeaaSf
import Derived.Test.YtmfamcaiimhaeaaSg
import Derived.Test.YtmfamcaiimhaeaaSj
import Derived.Test.YtmfamcaiimhaeaaSk
import Derived.Test.YtmfamcaiimhaeaaSl
import Derived.Test.YtmfamcaiimhaeaaSm
import Derived.Test.YtmfamcaiimhaeaaSn
import Derived.Test.YtmfamcaiimhaeaaSo
import Derived.Test.YtmfamcaiimhaeaaSp
import Derived.Test.YtmfamcaiimhaeaaSq
set_option linter.unusedVariables false
set_option linter.unusedSimpArgs false
open Go Go.Ax Go.Mx Go.ChangeShapes Go.WideShapes Go.RowKit Go.ChangeAt
namespace Go.Proofs.Ytmfamcaiimhaeaa
def V_l_FnSizesEmpty : Prop :=
  ∀ (l0 : List UInt8), (↑(List.length l0) : Int) ≤ (9223372036854775807 : Int) → (1048576 < (↑(List.length l0) : Int) → true = true) ∧ (¬1048576 < (↑(List.length l0) : Int) → (↑(List.length l0) : Int) ≤ 1099511627776 ∧ ∀ (l1 : List Int),
    (↑(List.length l1) : Int) ≤ 400 → (↑(List.length l1) : Int) ≤ 1099511627776 ∧ ∀ (n2 : Int), n2 = bestD l1 → (↑(List.length l1) : Int) ≤ 1099511627776 ∧ ∀ (n3 : Int), n3 = bestD l1 → (n2 ≠ n3 → (n2 = n3 → true = true) ∧ (¬n2 = n3 → false =
    true)) ∧ (¬n2 ≠ n3 → (↑0 : Int) ≤ 1099511627776 ∧ ∀ (l4 : List Int), l4 = sizesD [] ∧ (↑(List.length l4) : Int) ≤ 4 → ((↑(List.length l4) : Int) ≤ 1099511627776 ∧ (↑(List.length [2, 2, -1, 2]) : Int) ≤ 1099511627776) ∧ (true = decide (l4 =
    [2, 2, -1, 2]) → (↑0 : Int) ≤ 1099511627776 ∧ ∀ (n5 : Int), n5 = shareD [] → (n5 = 100 → (↑0 : Int) ≤ 1099511627776 ∧ ∀ (n6 : Int), n6 = bestD [] → (n6 = 0 → (-1 ≤ n2 → true = true) ∧ (¬-1 ≤ n2 → false = true)) ∧ (¬n6 = 0 → false = true)) ∧
    (¬n5 = 100 → false = true)) ∧ (false = decide (l4 = [2, 2, -1, 2]) → false = true)))
theorem v_l_FnSizesEmpty : V_l_FnSizesEmpty := by
  unfold V_l_FnSizesEmpty
  intro code hz
  refine ⟨fun _ => rfl, fun hc => ⟨by omega, fun l hl => ⟨by omega, ?_⟩⟩⟩
  rintro n rfl
  refine ⟨by omega, ?_⟩
  rintro n' rfl
  obtain ⟨e1, e2, e3⟩ := empty_sizes
  refine ⟨fun q => absurd rfl q, fun _ => ⟨by omega, ?_⟩⟩
  rintro s ⟨rfl, _⟩
  rw [e1]
  refine ⟨⟨by simp, by simp⟩, fun _ => ⟨by omega, ?_⟩, fun q => by simp at q⟩
  rintro n rfl
  refine ⟨fun _ => ⟨by omega, ?_⟩, fun q => absurd e2 q⟩
  rintro n rfl
  exact ⟨fun _ => ⟨fun _ => rfl, fun q => absurd (best_low l) q⟩, fun q => absurd e3 q⟩
def S_l_FnSizesEmpty : FSpec where
  args := [.sc (.sl .u8)]
  outs := [.sc .bool]
  pre := fun a => match a with
    | [.sc (.sl .u8 code)] => (((code).length : Nat) : Int) ≤ 9223372036854775807
    | _ => False
  post := fun a r => match a, r with
    | [.sc (.sl .u8 code)], [.sc (.bool r)] => r = true
    | _, _ => False
  kept := false
theorem m_l_FnSizesEmpty : Meets Try.prog 13 S_l_FnSizesEmpty :=
  meets tok mixed Try.func13 (by kernel_rfl) (l := [(28, S_l_sameInts), (29, S_s_SizeBest), (31, S_i_SizeBest), (34, S_i_SizeShare), (36, S_i_SizesOf), (45, S_s_DrawSizeBest)]) ⟨m_l_sameInts, m_s_SizeBest, m_i_SizeBest, m_i_SizeShare, m_i_SizesOf, m_s_DrawSizeBest, trivial⟩ (ann := []) v_l_FnSizesEmpty (by kernel_rfl)
theorem a_l_FnSizesEmpty : LawOf Try.prog Try.f13.params.toList S_l_FnSizesEmpty where
  args := by kernel_rfl
  outs := rfl
  pre := AKs.all_iff.1 (show AKs.all S_l_FnSizesEmpty.args (fun ds => bnds ds → S_l_FnSizesEmpty.pre ds) from fun x0 h => h.1)
  post := AKs.all_iff.1 (show AKs.all S_l_FnSizesEmpty.args (fun ds => ∀ b, S_l_FnSizesEmpty.post ds [.sc (.bool b)] → b = true) from fun x0 _ h => h)
set_option maxRecDepth 100000 in
theorem lifted_l_FnSizesEmpty (os : Os) (started : os.Started) (H : Type) (enc : TypeId × Value → H) :
    ReturnsInHanded {} Try.checked os 13 .any (Rows.fnSizesEmptySpec.pre6 enc Try.prog Try.f13 Rows.fnSizesEmptyRow.domain false) (Rows.fnSizesEmptySpec.post enc Try.prog Try.f13 false true false false) :=
  law_lifted (C := Try.checked) (F := S_l_FnSizesEmpty) (by kernel_rfl) started (by kernel_rfl) Try.func13
    (ChangeSpec.witness6 (enc := enc) (C := Try.checked) false ⟨#[], #[.slice none 0 0], []⟩ 8 (by kernel_rfl) (by kernel_rfl) (by kernel_rfl) (by kernel_rfl))
    m_l_FnSizesEmpty a_l_FnSizesEmpty (by kernel_rfl) (of_decide_eq_true (by kernel_rfl)) rfl (fun ds h => by match ds, h with | [d0], _ => rfl) (by kernel_rfl) Try.underlying4
theorem facts_FnSizesEmpty : ∀ P : Program, P = Try.prog → P.initOrder.toList = ioNums.map Char.ofNat → joinedFacts P 13 Try.f13 Rows.fnSizesEmptySpec Rows.fnSizesEmptyRow = true := by
  intro P hP h
  have h1 := io1 P hP h
  have h2 := io2 P hP h
  have h3 := io3 P hP h
  unfold joinedFacts
  rw [h1, h2, h3]
  subst hP
  show (_ : Bool) = true
  kernel_rfl
theorem proved_FnSizesEmpty : Rows.FnSizesEmptySaid :=
  OpenClaim.holds_of_wide 13 Try.f13 rfl rfl rfl rfl rfl rfl rfl ⟨rfl, rfl, rfl, rfl, rfl⟩ rfl rfl rfl rfl rfl (by kernel_rfl) Try.func13 (facts_FnSizesEmpty _ rfl ioL)
    (of_decide_eq_true (by kernel_rfl)) (by unfold Func.isWrapper; first | (rw [if_pos (by decide +kernel)]; kernel_rfl) | (rw [if_neg (by decide +kernel)]; exact ⟨rfl, rfl⟩))
    (fun os started H enc _ => lifted_l_FnSizesEmpty os started H enc)
end Go.Proofs.Ytmfamcaiimhaeaa
