/-
  FnSizeShare: for every input the law returns true, and each argument reads afterwards as it read before. No conditions.
-/
import Derived.Test.YtmfamcaiimhaeaaRows
import Derived.Test.YtmfamcaiimhaeaaT
import Derived.Test.YtmfamcaiimhaeaaSa
import Derived.Test.YtmfamcaiimhaeaaSb
import Derived.Test.YtmfamcaiimhaeaaSg
import Derived.Test.YtmfamcaiimhaeaaSj
import Derived.Test.YtmfamcaiimhaeaaSk
import Derived.Test.YtmfamcaiimhaeaaSl
import Derived.Test.YtmfamcaiimhaeaaSm
import Derived.Test.YtmfamcaiimhaeaaSn
import Derived.Test.YtmfamcaiimhaeaaSo
import Derived.Test.YtmfamcaiimhaeaaSp
import Derived.Test.YtmfamcaiimhaeaaSq
set_option linter.unusedVariables false
set_option linter.unusedSimpArgs false
open Go Go.Ax Go.Mx Go.ChangeShapes Go.WideShapes Go.RowKit Go.ChangeAt
namespace Go.Proofs.Ytmfamcaiimhaeaa
def V_l_FnSizeShare : Prop :=
  ∀ (l0 : List UInt8), (↑(List.length l0) : Int) ≤ (9223372036854775807 : Int) → (1048576 < (↑(List.length l0) : Int) → true = true) ∧ (¬1048576 < (↑(List.length l0) : Int) → (↑(List.length l0) : Int) ≤ 1099511627776 ∧ ∀ (l1 : List Int),
    (↑(List.length l1) : Int) ≤ 400 → (↑(List.length l1) : Int) ≤ 1099511627776 ∧ ∀ (n2 : Int), n2 = shareD l1 → (↑(List.length l1) : Int) ≤ 1099511627776 ∧ ∀ (n3 : Int), n3 = shareD l1 → (n2 ≠ n3 → (n2 = n3 → true = true) ∧ (¬n2 = n3 → false =
    true)) ∧ (¬n2 ≠ n3 → (n3 < 0 → (n2 = n3 → true = true) ∧ (¬n2 = n3 → false = true)) ∧ (¬n3 < 0 → (-9223372036854775808 ≤ (↑(List.length l1) : Int) + 2 ∧ (↑(List.length l1) : Int) + (2 : Int) ≤ (9223372036854775807 : Int)) ∧ (↑(List.length l1) : Int) ≤
    1099511627776 ∧ ∀ (l4 : List Int), l4 = packB l1 ∧ (↑(List.length l4) : Int) ≤ 82 → ((-9223372036854775808 : Int) ≤ 100 * (↑(List.length l4) : Int) ∧ 100 * (↑(List.length l4) : Int) ≤ (9223372036854775807 : Int)) ∧ (1 ≤ n2 → (n2 ≤ 100 →
    (-9223372036854775808 ≤ n2 * ((↑(List.length l1) : Int) + 2) ∧ n2 * ((↑(List.length l1) : Int) + 2) ≤ (9223372036854775807 : Int)) ∧ (100 * (↑(List.length l4) : Int) ≤ n2 * ((↑(List.length l1) : Int) + 2) → (-9223372036854775808 ≤ n2 - 1 ∧ n2 - (1 : Int) ≤ (9223372036854775807 : Int)) ∧ (-9223372036854775808 ≤ (n2 - 1) * ((↑(List.length l1) : Int) + 2) ∧ (n2 - 1) * ((↑(List.length l1) : Int) + 2) ≤ (9223372036854775807 : Int)) ∧ ((n2 - 1) * ((↑(List.length l1) : Int) + 2) < 100 * (↑(List.length l4) : Int) →
    true = true) ∧ (¬(n2 - 1) * ((↑(List.length l1) : Int) + 2) < 100 * (↑(List.length l4) : Int) → false = true)) ∧ (¬100 * (↑(List.length l4) : Int) ≤ n2 * ((↑(List.length l1) : Int) + 2) → false = true)) ∧ (¬n2 ≤ 100 → false = true)) ∧ (¬1 ≤
    n2 → false = true))))
theorem v_l_FnSizeShare : V_l_FnSizeShare := by
  unfold V_l_FnSizeShare
  intro code hz
  refine ⟨fun _ => rfl, fun hc => ⟨by omega, fun l hl => ⟨by omega, ?_⟩⟩⟩
  rintro n rfl
  refine ⟨by omega, ?_⟩
  rintro n' rfl
  refine ⟨fun q => absurd rfl q, fun _ => ⟨fun _ => ⟨fun _ => rfl, fun q => absurd rfl q⟩, fun hp => ⟨by omega, by omega, ?_⟩⟩⟩
  rintro o ⟨rfl, h4⟩
  have hv : LV l = true := by
    by_cases hv : LV l = true
    · exact hv
    · have : shareD l = -1 := if_neg hv
      omega
  obtain ⟨s1, s2, s3, s4, s5, s6⟩ := share_ok hv
  have hp8 := (packB_len l).1
  exact ⟨by omega, fun _ => ⟨fun _ => ⟨by omega, fun _ => ⟨by omega, by omega, fun _ => rfl, fun q => absurd s4 q⟩, fun q => absurd s3 q⟩, fun q => absurd s2 q⟩, fun q => absurd s1 q⟩
def S_l_FnSizeShare : FSpec where
  args := [.sc (.sl .u8)]
  outs := [.sc .bool]
  pre := fun a => match a with
    | [.sc (.sl .u8 code)] => (((code).length : Nat) : Int) ≤ 9223372036854775807
    | _ => False
  post := fun a r => match a, r with
    | [.sc (.sl .u8 code)], [.sc (.bool r)] => r = true
    | _, _ => False
  kept := false
theorem m_l_FnSizeShare : Meets Try.prog 7 S_l_FnSizeShare :=
  meets tok mixed Try.func7 (by kernel_rfl) (l := [(33, S_s_SizeShare), (34, S_i_SizeShare), (39, S_s_DrawSizeShare), (40, S_i_BlockPack)]) ⟨m_s_SizeShare, m_i_SizeShare, m_s_DrawSizeShare, m_i_BlockPack, trivial⟩ (ann := []) v_l_FnSizeShare (by kernel_rfl)
theorem a_l_FnSizeShare : LawOf Try.prog Try.f7.params.toList S_l_FnSizeShare where
  args := by kernel_rfl
  outs := rfl
  pre := AKs.all_iff.1 (show AKs.all S_l_FnSizeShare.args (fun ds => bnds ds → S_l_FnSizeShare.pre ds) from fun x0 h => h.1)
  post := AKs.all_iff.1 (show AKs.all S_l_FnSizeShare.args (fun ds => ∀ b, S_l_FnSizeShare.post ds [.sc (.bool b)] → b = true) from fun x0 _ h => h)
set_option maxRecDepth 100000 in
theorem lifted_l_FnSizeShare (os : Os) (started : os.Started) (H : Type) (enc : TypeId × Value → H) :
    ReturnsInHanded {} Try.checked os 7 .any (Rows.fnSizeShareSpec.pre6 enc Try.prog Try.f7 Rows.fnSizeShareRow.domain false) (Rows.fnSizeShareSpec.post enc Try.prog Try.f7 false true false false) :=
  law_lifted (C := Try.checked) (F := S_l_FnSizeShare) (by kernel_rfl) started (by kernel_rfl) Try.func7
    (ChangeSpec.witness6 (enc := enc) (C := Try.checked) false ⟨#[], #[.slice none 0 0], []⟩ 8 (by kernel_rfl) (by kernel_rfl) (by kernel_rfl) (by kernel_rfl))
    m_l_FnSizeShare a_l_FnSizeShare (by kernel_rfl) (of_decide_eq_true (by kernel_rfl)) rfl (fun ds h => by match ds, h with | [d0], _ => rfl) (by kernel_rfl) Try.underlying4
theorem facts_FnSizeShare : ∀ P : Program, P = Try.prog → P.initOrder.toList = ioNums.map Char.ofNat → joinedFacts P 7 Try.f7 Rows.fnSizeShareSpec Rows.fnSizeShareRow = true := by
  intro P hP h
  have h1 := io1 P hP h
  have h2 := io2 P hP h
  have h3 := io3 P hP h
  unfold joinedFacts
  rw [h1, h2, h3]
  subst hP
  show (_ : Bool) = true
  kernel_rfl
theorem proved_FnSizeShare : Rows.FnSizeShareSaid :=
  OpenClaim.holds_of_wide 7 Try.f7 rfl rfl rfl rfl rfl rfl rfl ⟨rfl, rfl, rfl, rfl, rfl⟩ rfl rfl rfl rfl rfl (by kernel_rfl) Try.func7 (facts_FnSizeShare _ rfl ioL)
    (of_decide_eq_true (by kernel_rfl)) (by unfold Func.isWrapper; first | (rw [if_pos (by decide +kernel)]; kernel_rfl) | (rw [if_neg (by decide +kernel)]; exact ⟨rfl, rfl⟩))
    (fun os started H enc _ => lifted_l_FnSizeShare os started H enc)
end Go.Proofs.Ytmfamcaiimhaeaa
