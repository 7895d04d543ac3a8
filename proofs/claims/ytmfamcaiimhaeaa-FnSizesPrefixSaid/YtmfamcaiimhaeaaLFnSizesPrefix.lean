/-
  FnSizesPrefix: for every input the law returns true, and each argument reads afterwards as it read before. No conditions.
-/
import Derived.Test.YtmfamcaiimhaeaaRows
import Derived.Test.YtmfamcaiimhaeaaT
import Derived.Test.YtmfamcaiimhaeaaSa
import Derived.Test.YtmfamcaiimhaeaaSb
import Derived.Test.YtmfamcaiimhaeaaSf
import Derived.Test.YtmfamcaiimhaeaaSg
import Derived.Test.YtmfamcaiimhaeaaSj
import Derived.Test.YtmfamcaiimhaeaaSk
import Derived.Test.YtmfamcaiimhaeaaSl
import Derived.Test.YtmfamcaiimhaeaaSm
import Derived.Test.YtmfamcaiimhaeaaSn
import Derived.Test.YtmfamcaiimhaeaaSo
import Derived.Test.YtmfamcaiimhaeaaSp
import Derived.Test.YtmfamcaiimhaeaaSq
set_option linter.unusedVariables false
set_option linter.unusedSimpArgs false
open Go Go.Ax Go.Mx Go.ChangeShapes Go.WideShapes Go.RowKit Go.ChangeAt
namespace Go.Proofs.Ytmfamcaiimhaeaa
def V_l_FnSizesPrefix : Prop :=
  ∀ (l0 : List UInt8), (↑(List.length l0) : Int) ≤ (9223372036854775807 : Int) → (1048576 < (↑(List.length l0) : Int) → true = true) ∧ (¬1048576 < (↑(List.length l0) : Int) → (↑(List.length l0) : Int) ≤ 1099511627776 ∧ ∀ (l1 : List Int),
    (↑(List.length l1) : Int) ≤ 400 → (↑(List.length l1) : Int) ≤ 1099511627776 ∧ ∀ (l2 : List Int), l2 = sizesD l1 ∧ (↑(List.length l2) : Int) ≤ 4 → (↑(List.length l1) : Int) ≤ 1099511627776 ∧ ∀ (l3 : List Int), l3 = sizesD l1 ∧ (↑(List.length
    l3) : Int) ≤ 4 → ((↑(List.length l2) : Int) ≤ 1099511627776 ∧ (↑(List.length l3) : Int) ≤ 1099511627776) ∧ (true = decide (l2 = l3) → ((↑(List.length l3) : Int) = 0 → ((↑(List.length l2) : Int) ≤ 1099511627776 ∧ (↑(List.length l3) : Int) ≤
    1099511627776) ∧ (true = decide (l2 = l3) → true = true) ∧ (false = decide (l2 = l3) → false = true)) ∧ (¬(↑(List.length l3) : Int) = 0 → ((↑(List.length l1) : Int) = 0 → ((↑(List.length l2) : Int) ≤ 1099511627776 ∧ (↑(List.length l3) : Int)
    ≤ 1099511627776) ∧ (true = decide (l2 = l3) → true = true) ∧ (false = decide (l2 = l3) → false = true)) ∧ (¬(↑(List.length l1) : Int) = 0 → (0 : Int) ≤ 2 ∧ 2 < (↑(List.length l2) : Int) ∧ Int.toNat 2 < List.length l2 ∧ (∃ (n : Int), LV l1 = true → 0
    < (↑(List.length l1) : Int) → n = (↑(List.length (enc (lensF l1) l1)) : Int)) ∧ (↑(List.length l1) : Int) ≤ 1099511627776 ∧ ∀ (n4 : Int), (LV l1 = true → 0 < (↑(List.length l1) : Int) → n4 = (↑(List.length (enc (lensF l1) l1)) : Int)) →
    (-9223372036854775808 ≤ n4 + 7 ∧ n4 + (7 : Int) ≤ (9223372036854775807 : Int)) ∧ 0 ≤ n4 + 7 ∧ (0 : Int) < 8 ∧ (-9223372036854775808 ≤ (n4 + 7) / 8 ∧ (n4 + 7) / (8 : Int) ≤ (9223372036854775807 : Int)) ∧ ((-9223372036854775808 : Int) ≤ 6 + (n4 + 7) / 8 ∧ 6 + (n4 + 7) / (8 : Int) ≤ (9223372036854775807 : Int)) ∧ (List.getD l2 (Int.toNat 2) (0 : Int) = 6 + (n4 + 7) / 8 → true = true) ∧ (¬List.getD l2 (Int.toNat 2) (0 : Int) = 6 + (n4 + 7) / 8 → false = true)))) ∧ (false = decide (l2 = l3) → ((↑(List.length l2) : Int) ≤ 1099511627776 ∧
    (↑(List.length l3) : Int) ≤ 1099511627776) ∧ (true = decide (l2 = l3) → true = true) ∧ (false = decide (l2 = l3) → false = true)))
theorem v_l_FnSizesPrefix : V_l_FnSizesPrefix := by
  unfold V_l_FnSizesPrefix
  intro code hz
  refine ⟨fun _ => rfl, fun hc => ⟨by omega, fun l hl => ⟨by omega, ?_⟩⟩⟩
  rintro o ⟨rfl, h4⟩
  refine ⟨by omega, ?_⟩
  rintro o' ⟨rfl, h4'⟩
  refine ⟨⟨by omega, by omega⟩, fun _ => ⟨fun _ => ⟨⟨by omega, by omega⟩, fun _ => rfl, fun q => by simp at q⟩, fun hne => ?_⟩, fun q => by simp at q⟩
  obtain ⟨hv, hD⟩ := sizesD_pos hne
  have hs4 : (sizes4 l).length = 4 := rfl
  rw [hD]
  obtain ⟨k0, k1, k3, k2⟩ := sizes_known hv
  have g2 := sizes_get l (w := 2) (by omega) (by omega)
  refine ⟨fun _ => ⟨⟨by omega, by omega⟩, fun _ => rfl, fun q => by simp at q⟩, fun hne0 => ⟨by omega, by omega, by omega, ⟨_, fun _ _ => rfl⟩, by omega, ?_⟩⟩
  intro n hn
  have hn := hn hv (by omega)
  have h320 := (encD_list hv hne0).2.2.2.1
  rw [g2, k2 hne0, hn]
  exact ⟨by omega, by omega, by omega, by omega, by omega, fun _ => rfl, fun q => absurd rfl q⟩
def S_l_FnSizesPrefix : FSpec where
  args := [.sc (.sl .u8)]
  outs := [.sc .bool]
  pre := fun a => match a with
    | [.sc (.sl .u8 code)] => (((code).length : Nat) : Int) ≤ 9223372036854775807
    | _ => False
  post := fun a r => match a, r with
    | [.sc (.sl .u8 code)], [.sc (.bool r)] => r = true
    | _, _ => False
  kept := false
theorem m_l_FnSizesPrefix : Meets Try.prog 12 S_l_FnSizesPrefix :=
  meets tok mixed Try.func12 (by kernel_rfl) (l := [(28, S_l_sameInts), (35, S_s_SizesOf), (36, S_i_SizesOf), (41, S_s_DrawSizesOf), (46, S_i_PrefixBits)]) ⟨m_l_sameInts, m_s_SizesOf, m_i_SizesOf, m_s_DrawSizesOf, m_i_PrefixBits, trivial⟩ (ann := []) v_l_FnSizesPrefix (by kernel_rfl)
theorem a_l_FnSizesPrefix : LawOf Try.prog Try.f12.params.toList S_l_FnSizesPrefix where
  args := by kernel_rfl
  outs := rfl
  pre := AKs.all_iff.1 (show AKs.all S_l_FnSizesPrefix.args (fun ds => bnds ds → S_l_FnSizesPrefix.pre ds) from fun x0 h => h.1)
  post := AKs.all_iff.1 (show AKs.all S_l_FnSizesPrefix.args (fun ds => ∀ b, S_l_FnSizesPrefix.post ds [.sc (.bool b)] → b = true) from fun x0 _ h => h)
set_option maxRecDepth 100000 in
theorem lifted_l_FnSizesPrefix (os : Os) (started : os.Started) (H : Type) (enc : TypeId × Value → H) :
    ReturnsInHanded {} Try.checked os 12 .any (Rows.fnSizesPrefixSpec.pre6 enc Try.prog Try.f12 Rows.fnSizesPrefixRow.domain false) (Rows.fnSizesPrefixSpec.post enc Try.prog Try.f12 false true false false) :=
  law_lifted (C := Try.checked) (F := S_l_FnSizesPrefix) (by kernel_rfl) started (by kernel_rfl) Try.func12
    (ChangeSpec.witness6 (enc := enc) (C := Try.checked) false ⟨#[], #[.slice none 0 0], []⟩ 8 (by kernel_rfl) (by kernel_rfl) (by kernel_rfl) (by kernel_rfl))
    m_l_FnSizesPrefix a_l_FnSizesPrefix (by kernel_rfl) (of_decide_eq_true (by kernel_rfl)) rfl (fun ds h => by match ds, h with | [d0], _ => rfl) (by kernel_rfl) Try.underlying4
theorem facts_FnSizesPrefix : ∀ P : Program, P = Try.prog → P.initOrder.toList = ioNums.map Char.ofNat → joinedFacts P 12 Try.f12 Rows.fnSizesPrefixSpec Rows.fnSizesPrefixRow = true := by
  intro P hP h
  have h1 := io1 P hP h
  have h2 := io2 P hP h
  have h3 := io3 P hP h
  unfold joinedFacts
  rw [h1, h2, h3]
  subst hP
  show (_ : Bool) = true
  kernel_rfl
theorem proved_FnSizesPrefix : Rows.FnSizesPrefixSaid :=
  OpenClaim.holds_of_wide 12 Try.f12 rfl rfl rfl rfl rfl rfl rfl ⟨rfl, rfl, rfl, rfl, rfl⟩ rfl rfl rfl rfl rfl (by kernel_rfl) Try.func12 (facts_FnSizesPrefix _ rfl ioL)
    (of_decide_eq_true (by kernel_rfl)) (by unfold Func.isWrapper; first | (rw [if_pos (by decide +kernel)]; kernel_rfl) | (rw [if_neg (by decide +kernel)]; exact ⟨rfl, rfl⟩))
    (fun os started H enc _ => lifted_l_FnSizesPrefix os started H enc)
end Go.Proofs.Ytmfamcaiimhaeaa
