/-
  FnSizesKnown: for every input the law returns true, and each argument reads afterwards as it read before. No conditions.
-/
import Derived.Test.YtmfamcaiimhaeaaRows
import Derived.Test.YtmfamcaiimhaeaaT
import Derived.Test.YtmfamcaiimhaeaaSa
import Derived.Test.YtmfamcaiimhaeaaSb
import Derived.Test.YtmfamcaiimhaeaaSf
import Derived.Test.YtmfamcaiimhaeaaSg
import Derived.Test.YtmfamcaiimhaeaaSj
import Derived.Test.YtmfamcaiimhaeaaSk
import Derived.Test.YtmfamcaiimhaeaaSl
import Derived.Test.YtmfamcaiimhaeaaSm
import Derived.Test.YtmfamcaiimhaeaaSn
import Derived.Test.YtmfamcaiimhaeaaSo
import Derived.Test.YtmfamcaiimhaeaaSp
import Derived.Test.YtmfamcaiimhaeaaSq
set_option linter.unusedVariables false
set_option linter.unusedSimpArgs false
open Go Go.Ax Go.Mx Go.ChangeShapes Go.WideShapes Go.RowKit Go.ChangeAt
namespace Go.Proofs.Ytmfamcaiimhaeaa
def V_l_FnSizesKnown : Prop :=
  ∀ (l0 : List UInt8), (↑(List.length l0) : Int) ≤ (9223372036854775807 : Int) → (1048576 < (↑(List.length l0) : Int) → true = true) ∧ (¬1048576 < (↑(List.length l0) : Int) → (↑(List.length l0) : Int) ≤ 1099511627776 ∧ ∀ (l1 : List Int),
    (↑(List.length l1) : Int) ≤ 400 → (↑(List.length l1) : Int) ≤ 1099511627776 ∧ ∀ (l2 : List Int), l2 = sizesD l1 ∧ (↑(List.length l2) : Int) ≤ 4 → (↑(List.length l1) : Int) ≤ 1099511627776 ∧ ∀ (l3 : List Int), l3 = sizesD l1 ∧ (↑(List.length
    l3) : Int) ≤ 4 → ((↑(List.length l2) : Int) ≤ 1099511627776 ∧ (↑(List.length l3) : Int) ≤ 1099511627776) ∧ (true = decide (l2 = l3) → ((↑(List.length l3) : Int) = 0 → ((↑(List.length l2) : Int) ≤ 1099511627776 ∧ (↑(List.length l3) : Int) ≤
    1099511627776) ∧ (true = decide (l2 = l3) → true = true) ∧ (false = decide (l2 = l3) → false = true)) ∧ (¬(↑(List.length l3) : Int) = 0 → (0 : Int) ≤ 0 ∧ 0 < (↑(List.length l2) : Int) ∧ Int.toNat 0 < List.length l2 ∧ ((-9223372036854775808 : Int) ≤ 2 +
    (↑(List.length l1) : Int) ∧ 2 + (↑(List.length l1) : Int) ≤ (9223372036854775807 : Int)) ∧ (List.getD l2 (Int.toNat 0) (0 : Int) = 2 + (↑(List.length l1) : Int) → (0 : Int) ≤ 1 ∧ 1 < (↑(List.length l2) : Int) ∧ Int.toNat 1 < List.length l2 ∧ (∃ (xs : List (Int ×
    Int)), xs = runsD l1 ∧ (↑(List.length xs) : Int) ≤ 40) ∧ (↑(List.length l1) : Int) ≤ 1099511627776 ∧ ∀ (l4 : List (Int × Int)), l4 = runsD l1 ∧ (↑(List.length l4) : Int) ≤ 40 → ((-9223372036854775808 : Int) ≤ 2 * (↑(List.length l4) : Int) ∧ 2 *
    (↑(List.length l4) : Int) ≤ (9223372036854775807 : Int)) ∧ ((-9223372036854775808 : Int) ≤ 2 + 2 * (↑(List.length l4) : Int) ∧ 2 + 2 * (↑(List.length l4) : Int) ≤ (9223372036854775807 : Int)) ∧ (List.getD l2 (Int.toNat 1) (0 : Int) = 2 + 2 * (↑(List.length l4) : Int) → (0 : Int) ≤ 3 ∧ 3 < (↑(List.length l2) : Int) ∧ Int.toNat 3 < List.length l2 ∧ (∃ (xs : List (Int × Int × Int)), xs = parseD l1 ∧ (↑(List.length xs) : Int) ≤ 40) ∧ (↑(List.length l1) : Int) ≤ 1099511627776 ∧ ∀ (l5 : List (Int × Int × Int)), l5 = parseD
    l1 ∧ (↑(List.length l5) : Int) ≤ 40 → ((-9223372036854775808 : Int) ≤ 2 + (↑(List.length l5) : Int) ∧ 2 + (↑(List.length l5) : Int) ≤ (9223372036854775807 : Int)) ∧ (List.getD l2 (Int.toNat 3) (0 : Int) = 2 + (↑(List.length l5) : Int) → true = true) ∧ (¬List.getD
    l2 (Int.toNat 3) (0 : Int) = 2 + (↑(List.length l5) : Int) → false = true)) ∧ (¬List.getD l2 (Int.toNat 1) (0 : Int) = 2 + 2 * (↑(List.length l4) : Int) → false = true)) ∧ (¬List.getD l2 (Int.toNat 0) (0 : Int) = 2 + (↑(List.length l1) : Int) → false = true))) ∧
    (false = decide (l2 = l3) → ((↑(List.length l2) : Int) ≤ 1099511627776 ∧ (↑(List.length l3) : Int) ≤ 1099511627776) ∧ (true = decide (l2 = l3) → true = true) ∧ (false = decide (l2 = l3) → false = true)))
theorem v_l_FnSizesKnown : V_l_FnSizesKnown := by
  unfold V_l_FnSizesKnown
  intro code hz
  refine ⟨fun _ => rfl, fun hc => ⟨by omega, fun l hl => ⟨by omega, ?_⟩⟩⟩
  rintro o ⟨rfl, h4⟩
  refine ⟨by omega, ?_⟩
  rintro o' ⟨rfl, h4'⟩
  refine ⟨⟨by omega, by omega⟩, fun _ => ⟨fun _ => ⟨⟨by omega, by omega⟩, fun _ => rfl, fun q => by simp at q⟩, fun hne => ?_⟩, fun q => by simp at q⟩
  obtain ⟨hv, hD⟩ := sizesD_pos hne
  have hs4 : (sizes4 l).length = 4 := rfl
  rw [hD]
  obtain ⟨k0, k1, k3, k2⟩ := sizes_known hv
  have g0 := sizes_get l (w := 0) (by omega) (by omega)
  have g1 := sizes_get l (w := 1) (by omega) (by omega)
  have g3 := sizes_get l (w := 3) (by omega) (by omega)
  have hr : ((runsD l).length : Int) ≤ 40 := by
    have : runsD l = runs l := if_pos hv
    rw [this]; have := runs_len l; have := LV_len hv; omega
  have hp := (parseD_len l).2
  rw [g0, g1, g3, k0, k1, k3]
  refine ⟨by omega, by omega, by omega, by omega, fun _ => ⟨by omega, by omega, by omega, ⟨_, rfl, hr⟩, by omega, ?_⟩, fun q => absurd rfl q⟩
  rintro rs ⟨rfl, _⟩
  refine ⟨by omega, by omega, fun _ => ⟨by omega, by omega, by omega, ⟨_, rfl, hp⟩, by omega, ?_⟩, fun q => absurd rfl q⟩
  rintro ts ⟨rfl, _⟩
  exact ⟨by omega, fun _ => rfl, fun q => absurd rfl q⟩
def S_l_FnSizesKnown : FSpec where
  args := [.sc (.sl .u8)]
  outs := [.sc .bool]
  pre := fun a => match a with
    | [.sc (.sl .u8 code)] => (((code).length : Nat) : Int) ≤ 9223372036854775807
    | _ => False
  post := fun a r => match a, r with
    | [.sc (.sl .u8 code)], [.sc (.bool r)] => r = true
    | _, _ => False
  kept := false
theorem m_l_FnSizesKnown : Meets Try.prog 9 S_l_FnSizesKnown :=
  meets tok mixed Try.func9 (by kernel_rfl) (l := [(28, S_l_sameInts), (35, S_s_SizesOf), (36, S_i_SizesOf), (41, S_s_DrawSizesOf), (43, S_i_RunsOf), (44, S_i_ParseBest)]) ⟨m_l_sameInts, m_s_SizesOf, m_i_SizesOf, m_s_DrawSizesOf, m_i_RunsOf, m_i_ParseBest, trivial⟩ (ann := []) v_l_FnSizesKnown (by kernel_rfl)
theorem a_l_FnSizesKnown : LawOf Try.prog Try.f9.params.toList S_l_FnSizesKnown where
  args := by kernel_rfl
  outs := rfl
  pre := AKs.all_iff.1 (show AKs.all S_l_FnSizesKnown.args (fun ds => bnds ds → S_l_FnSizesKnown.pre ds) from fun x0 h => h.1)
  post := AKs.all_iff.1 (show AKs.all S_l_FnSizesKnown.args (fun ds => ∀ b, S_l_FnSizesKnown.post ds [.sc (.bool b)] → b = true) from fun x0 _ h => h)
set_option maxRecDepth 100000 in
theorem lifted_l_FnSizesKnown (os : Os) (started : os.Started) (H : Type) (enc : TypeId × Value → H) :
    ReturnsInHanded {} Try.checked os 9 .any (Rows.fnSizesKnownSpec.pre6 enc Try.prog Try.f9 Rows.fnSizesKnownRow.domain false) (Rows.fnSizesKnownSpec.post enc Try.prog Try.f9 false true false false) :=
  law_lifted (C := Try.checked) (F := S_l_FnSizesKnown) (by kernel_rfl) started (by kernel_rfl) Try.func9
    (ChangeSpec.witness6 (enc := enc) (C := Try.checked) false ⟨#[], #[.slice none 0 0], []⟩ 8 (by kernel_rfl) (by kernel_rfl) (by kernel_rfl) (by kernel_rfl))
    m_l_FnSizesKnown a_l_FnSizesKnown (by kernel_rfl) (of_decide_eq_true (by kernel_rfl)) rfl (fun ds h => by match ds, h with | [d0], _ => rfl) (by kernel_rfl) Try.underlying4
theorem facts_FnSizesKnown : ∀ P : Program, P = Try.prog → P.initOrder.toList = ioNums.map Char.ofNat → joinedFacts P 9 Try.f9 Rows.fnSizesKnownSpec Rows.fnSizesKnownRow = true := by
  intro P hP h
  have h1 := io1 P hP h
  have h2 := io2 P hP h
  have h3 := io3 P hP h
  unfold joinedFacts
  rw [h1, h2, h3]
  subst hP
  show (_ : Bool) = true
  kernel_rfl
theorem proved_FnSizesKnown : Rows.FnSizesKnownSaid :=
  OpenClaim.holds_of_wide 9 Try.f9 rfl rfl rfl rfl rfl rfl rfl ⟨rfl, rfl, rfl, rfl, rfl⟩ rfl rfl rfl rfl rfl (by kernel_rfl) Try.func9 (facts_FnSizesKnown _ rfl ioL)
    (of_decide_eq_true (by kernel_rfl)) (by unfold Func.isWrapper; first | (rw [if_pos (by decide +kernel)]; kernel_rfl) | (rw [if_neg (by decide +kernel)]; exact ⟨rfl, rfl⟩))
    (fun os started H enc _ => lifted_l_FnSizesKnown os started H enc)
end Go.Proofs.Ytmfamcaiimhaeaa
