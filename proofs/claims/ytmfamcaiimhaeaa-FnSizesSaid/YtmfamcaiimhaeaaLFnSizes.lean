/-
  FnSizes: for every input the law returns true, and each argument reads afterwards as it read before. No conditions.
-/
import Derived.Test.YtmfamcaiimhaeaaRows
import Derived.Test.YtmfamcaiimhaeaaT
import Derived.Test.YtmfamcaiimhaeaaSa
import Derived.Test.YtmfamcaiimhaeaaSb
import Derived.Test.YtmfamcaiimhaeaaSf
import Derived.Test.YtmfamcaiimhaeaaSg
import Derived.Test.YtmfamcaiimhaeaaSj
import Derived.Test.YtmfamcaiimhaeaaSk
import Derived.Test.YtmfamcaiimhaeaaSl
import Derived.Test.YtmfamcaiimhaeaaSm
import Derived.Test.YtmfamcaiimhaeaaSn
import Derived.Test.YtmfamcaiimhaeaaSo
import Derived.Test.YtmfamcaiimhaeaaSp
import Derived.Test.YtmfamcaiimhaeaaSq
set_option linter.unusedVariables false
set_option linter.unusedSimpArgs false
open Go Go.Ax Go.Mx Go.ChangeShapes Go.WideShapes Go.RowKit Go.ChangeAt
namespace Go.Proofs.Ytmfamcaiimhaeaa
def V_l_FnSizes : Prop :=
  ∀ (l0 : List UInt8), (↑(List.length l0) : Int) ≤ (9223372036854775807 : Int) → (1048576 < (↑(List.length l0) : Int) → true = true) ∧ (¬1048576 < (↑(List.length l0) : Int) → (↑(List.length l0) : Int) ≤ 1099511627776 ∧ ∀ (l1 : List Int),
    (↑(List.length l1) : Int) ≤ 400 → (↑(List.length l1) : Int) ≤ 1099511627776 ∧ ∀ (l2 : List Int), l2 = sizesD l1 ∧ (↑(List.length l2) : Int) ≤ 4 → (↑(List.length l1) : Int) ≤ 1099511627776 ∧ ∀ (l3 : List Int), l3 = sizesD l1 ∧ (↑(List.length
    l3) : Int) ≤ 4 → ((↑(List.length l2) : Int) ≤ 1099511627776 ∧ (↑(List.length l3) : Int) ≤ 1099511627776) ∧ (true = decide (l2 = l3) → ((↑(List.length l3) : Int) = 0 → ((↑(List.length l2) : Int) ≤ 1099511627776 ∧ (↑(List.length l3) : Int) ≤
    1099511627776) ∧ (true = decide (l2 = l3) → true = true) ∧ (false = decide (l2 = l3) → false = true)) ∧ (¬(↑(List.length l3) : Int) = 0 → ∃ (I4 : Int → Prop), ∃ (m5 : Int → Nat), I4 0 ∧ ∀ (n6 : Int), I4 n6 → (n6 ≤ 3 → (↑(List.length l1) :
    Int) ≤ 1099511627776 ∧ ∀ (l7 : List Int), (true = Option.isSome (blockAs l1 n6) ∧ l7 = Option.getD (blockAs l1 n6) [] ∧ (↑(List.length l7) : Int) ≤ 82 → 0 ≤ n6 ∧ n6 < (↑(List.length l2) : Int) ∧ Int.toNat n6 < List.length l2 ∧ (List.getD l2
    (Int.toNat n6) 0 ≠ (↑(List.length l7) : Int) → false = true) ∧ (¬List.getD l2 (Int.toNat n6) 0 ≠ (↑(List.length l7) : Int) → (-9223372036854775808 ≤ n6 + 1 ∧ n6 + (1 : Int) ≤ (9223372036854775807 : Int)) ∧ I4 (n6 + 1) ∧ m5 (n6 + 1) < m5 n6)) ∧ (false =
    Option.isSome (blockAs l1 n6) ∧ l7 = Option.getD (blockAs l1 n6) [] ∧ (↑(List.length l7) : Int) ≤ 82 → 0 ≤ n6 ∧ n6 < (↑(List.length l2) : Int) ∧ Int.toNat n6 < List.length l2 ∧ (List.getD l2 (Int.toNat n6) (0 : Int) ≠ -1 → false = true) ∧
    (¬List.getD l2 (Int.toNat n6) (0 : Int) ≠ -1 → (-9223372036854775808 ≤ n6 + 1 ∧ n6 + (1 : Int) ≤ (9223372036854775807 : Int)) ∧ I4 (n6 + 1) ∧ m5 (n6 + 1) < m5 n6))) ∧ (¬n6 ≤ 3 → ((↑(List.length l2) : Int) = 4 → true = true) ∧ (¬(↑(List.length l2) : Int) = 4 → false
    = true)))) ∧ (false = decide (l2 = l3) → ((↑(List.length l2) : Int) ≤ 1099511627776 ∧ (↑(List.length l3) : Int) ≤ 1099511627776) ∧ (true = decide (l2 = l3) → true = true) ∧ (false = decide (l2 = l3) → false = true)))
theorem v_l_FnSizes : V_l_FnSizes := by
  unfold V_l_FnSizes
  intro code hz
  refine ⟨fun _ => rfl, fun hc => ⟨by omega, fun l hl => ⟨by omega, ?_⟩⟩⟩
  rintro o ⟨rfl, h4⟩
  refine ⟨by omega, ?_⟩
  rintro o' ⟨rfl, h4'⟩
  refine ⟨⟨by omega, by omega⟩, fun _ => ⟨fun _ => ⟨⟨by omega, by omega⟩, fun _ => rfl, fun q => by simp at q⟩, fun hne => ?_⟩, fun q => by simp at q⟩
  obtain ⟨hv, hD⟩ := sizesD_pos hne
  have hs4 : (sizes4 l).length = 4 := rfl
  rw [hD]
  refine ⟨fun w => 0 ≤ w ∧ w ≤ 4, fun w => (4 - w).toNat, ?_, ?_⟩ <;> dsimp only
  · omega
  rintro w ⟨w0, w1⟩
  refine ⟨fun hw => ⟨by omega, fun x => ⟨?_, ?_⟩⟩, fun _ => ⟨fun _ => rfl, fun q => absurd rfl q⟩⟩
  · rintro ⟨q, rfl, _⟩
    rw [sizes_get l w0 hw, sizeAs_some q]
    exact ⟨w0, by omega, by omega, fun h => absurd rfl h, fun _ => ⟨by omega, by omega, by omega⟩⟩
  · rintro ⟨q, rfl, _⟩
    rw [sizes_get l w0 hw, sizeAs_none q]
    exact ⟨w0, by omega, by omega, fun h => absurd rfl h, fun _ => ⟨by omega, by omega, by omega⟩⟩
def S_l_FnSizes : FSpec where
  args := [.sc (.sl .u8)]
  outs := [.sc .bool]
  pre := fun a => match a with
    | [.sc (.sl .u8 code)] => (((code).length : Nat) : Int) ≤ 9223372036854775807
    | _ => False
  post := fun a r => match a, r with
    | [.sc (.sl .u8 code)], [.sc (.bool r)] => r = true
    | _, _ => False
  kept := false
theorem m_l_FnSizes : Meets Try.prog 8 S_l_FnSizes :=
  meets tok mixed Try.func8 (by kernel_rfl) (l := [(28, S_l_sameInts), (35, S_s_SizesOf), (36, S_i_SizesOf), (41, S_s_DrawSizesOf), (42, S_i_BlockAs)]) ⟨m_l_sameInts, m_s_SizesOf, m_i_SizesOf, m_s_DrawSizesOf, m_i_BlockAs, trivial⟩ (ann := [(9, [.slot 6 .int])]) v_l_FnSizes (by kernel_rfl)
theorem a_l_FnSizes : LawOf Try.prog Try.f8.params.toList S_l_FnSizes where
  args := by kernel_rfl
  outs := rfl
  pre := AKs.all_iff.1 (show AKs.all S_l_FnSizes.args (fun ds => bnds ds → S_l_FnSizes.pre ds) from fun x0 h => h.1)
  post := AKs.all_iff.1 (show AKs.all S_l_FnSizes.args (fun ds => ∀ b, S_l_FnSizes.post ds [.sc (.bool b)] → b = true) from fun x0 _ h => h)
set_option maxRecDepth 100000 in
theorem lifted_l_FnSizes (os : Os) (started : os.Started) (H : Type) (enc : TypeId × Value → H) :
    ReturnsInHanded {} Try.checked os 8 .any (Rows.fnSizesSpec.pre6 enc Try.prog Try.f8 Rows.fnSizesRow.domain false) (Rows.fnSizesSpec.post enc Try.prog Try.f8 false true false false) :=
  law_lifted (C := Try.checked) (F := S_l_FnSizes) (by kernel_rfl) started (by kernel_rfl) Try.func8
    (ChangeSpec.witness6 (enc := enc) (C := Try.checked) false ⟨#[], #[.slice none 0 0], []⟩ 8 (by kernel_rfl) (by kernel_rfl) (by kernel_rfl) (by kernel_rfl))
    m_l_FnSizes a_l_FnSizes (by kernel_rfl) (of_decide_eq_true (by kernel_rfl)) rfl (fun ds h => by match ds, h with | [d0], _ => rfl) (by kernel_rfl) Try.underlying4
theorem facts_FnSizes : ∀ P : Program, P = Try.prog → P.initOrder.toList = ioNums.map Char.ofNat → joinedFacts P 8 Try.f8 Rows.fnSizesSpec Rows.fnSizesRow = true := by
  intro P hP h
  have h1 := io1 P hP h
  have h2 := io2 P hP h
  have h3 := io3 P hP h
  unfold joinedFacts
  rw [h1, h2, h3]
  subst hP
  show (_ : Bool) = true
  kernel_rfl
theorem proved_FnSizes : Rows.FnSizesSaid :=
  OpenClaim.holds_of_wide 8 Try.f8 rfl rfl rfl rfl rfl rfl rfl ⟨rfl, rfl, rfl, rfl, rfl⟩ rfl rfl rfl rfl rfl (by kernel_rfl) Try.func8 (facts_FnSizes _ rfl ioL)
    (of_decide_eq_true (by kernel_rfl)) (by unfold Func.isWrapper; first | (rw [if_pos (by decide +kernel)]; kernel_rfl) | (rw [if_neg (by decide +kernel)]; exact ⟨rfl, rfl⟩))
    (fun os started H enc _ => lifted_l_FnSizes os started H enc)
end Go.Proofs.Ytmfamcaiimhaeaa
