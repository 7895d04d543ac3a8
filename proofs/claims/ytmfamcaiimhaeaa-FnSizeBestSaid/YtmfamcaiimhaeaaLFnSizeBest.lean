/-
  FnSizeBest: for every input the law returns true, and each argument reads afterwards as it read before. No conditions.
-/
import Derived.Test.YtmfamcaiimhaeaaRows
import Derived.Test.YtmfamcaiimhaeaaT
import Derived.Test.YtmfamcaiimhaeaaSa
import Derived.Test.YtmfamcaiimhaeaaSb
import Derived.Test.YtmfamcaiimhaeaaSg
import Derived.Test.YtmfamcaiimhaeaaSj
import Derived.Test.YtmfamcaiimhaeaaSk
import Derived.Test.YtmfamcaiimhaeaaSl
import Derived.Test.YtmfamcaiimhaeaaSm
import Derived.Test.YtmfamcaiimhaeaaSn
import Derived.Test.YtmfamcaiimhaeaaSo
import Derived.Test.YtmfamcaiimhaeaaSp
import Derived.Test.YtmfamcaiimhaeaaSq
set_option linter.unusedVariables false
set_option linter.unusedSimpArgs false
open Go Go.Ax Go.Mx Go.ChangeShapes Go.WideShapes Go.RowKit Go.ChangeAt
namespace Go.Proofs.Ytmfamcaiimhaeaa
def V_l_FnSizeBest : Prop :=
  ∀ (l0 : List UInt8), (↑(List.length l0) : Int) ≤ (9223372036854775807 : Int) → (1048576 < (↑(List.length l0) : Int) → true = true) ∧ (¬1048576 < (↑(List.length l0) : Int) → (↑(List.length l0) : Int) ≤ 1099511627776 ∧ ∀ (l1 : List Int),
    (↑(List.length l1) : Int) ≤ 400 → (↑(List.length l1) : Int) ≤ 1099511627776 ∧ ∀ (n2 : Int), n2 = bestD l1 → (↑(List.length l1) : Int) ≤ 1099511627776 ∧ ∀ (n3 : Int), n3 = bestD l1 → (n2 ≠ n3 → (n2 = n3 → true = true) ∧ (¬n2 = n3 → false =
    true)) ∧ (¬n2 ≠ n3 → (n3 < 0 → (n2 = n3 → true = true) ∧ (¬n2 = n3 → false = true)) ∧ (¬n3 < 0 → (↑(List.length l1) : Int) ≤ 1099511627776 ∧ ∀ (l4 : List Int), l4 = sizesD l1 ∧ (↑(List.length l4) : Int) ≤ 4 → ∃ (I5 : Int → Prop), ∃ (m6 : Int
    → Nat), I5 0 ∧ ∀ (n7 : Int), I5 n7 → (n7 < (↑(List.length l4) : Int) → 0 ≤ n7 ∧ n7 < (↑(List.length l4) : Int) ∧ Int.toNat n7 < List.length l4 ∧ (0 ≤ List.getD l4 (Int.toNat n7) 0 → 0 ≤ n7 ∧ n7 < (↑(List.length l4) : Int) ∧ Int.toNat n7 <
    List.length l4 ∧ 0 ≤ n2 ∧ n2 < (↑(List.length l4) : Int) ∧ Int.toNat n2 < List.length l4 ∧ (List.getD l4 (Int.toNat n7) 0 < List.getD l4 (Int.toNat n2) 0 → false = true) ∧ (¬List.getD l4 (Int.toNat n7) 0 < List.getD l4 (Int.toNat n2) 0 → (n7
    < n2 → 0 ≤ n7 ∧ n7 < (↑(List.length l4) : Int) ∧ Int.toNat n7 < List.length l4 ∧ 0 ≤ n2 ∧ n2 < (↑(List.length l4) : Int) ∧ Int.toNat n2 < List.length l4 ∧ (List.getD l4 (Int.toNat n7) 0 = List.getD l4 (Int.toNat n2) 0 → false = true) ∧
    (¬List.getD l4 (Int.toNat n7) 0 = List.getD l4 (Int.toNat n2) 0 → (-9223372036854775808 ≤ n7 + 1 ∧ n7 + (1 : Int) ≤ (9223372036854775807 : Int)) ∧ I5 (n7 + 1) ∧ m6 (n7 + 1) < m6 n7)) ∧ (¬n7 < n2 → (-9223372036854775808 ≤ n7 + 1 ∧ n7 + (1 : Int) ≤ (9223372036854775807 : Int)) ∧ I5 (n7 + 1) ∧ m6 (n7 + 1) < m6 n7))) ∧ (¬0 ≤ List.getD l4 (Int.toNat n7) 0 → (-9223372036854775808 ≤ n7 + 1 ∧ n7 + (1 : Int) ≤ (9223372036854775807 : Int)) ∧ I5 (n7 + 1) ∧ m6 (n7 + 1) < m6 n7)) ∧ (¬n7 < (↑(List.length l4) : Int) → 0 ≤
    n2 ∧ n2 < (↑(List.length l4) : Int) ∧ Int.toNat n2 < List.length l4 ∧ (∃ (xs : List Int), xs = packB l1 ∧ (↑(List.length xs) : Int) ≤ 82) ∧ (↑(List.length l1) : Int) ≤ 1099511627776 ∧ ∀ (l8 : List Int), l8 = packB l1 ∧ (↑(List.length l8) :
    Int) ≤ 82 → (List.getD l4 (Int.toNat n2) 0 = (↑(List.length l8) : Int) → true = true) ∧ (¬List.getD l4 (Int.toNat n2) 0 = (↑(List.length l8) : Int) → false = true)))))
theorem v_l_FnSizeBest : V_l_FnSizeBest := by
  unfold V_l_FnSizeBest
  intro code hz
  refine ⟨fun _ => rfl, fun hc => ⟨by omega, fun l hl => ⟨by omega, ?_⟩⟩⟩
  rintro n rfl
  refine ⟨by omega, ?_⟩
  rintro n' rfl
  refine ⟨fun q => absurd rfl q, fun _ => ⟨fun _ => ⟨fun _ => rfl, fun q => absurd rfl q⟩, fun hp => ⟨by omega, ?_⟩⟩⟩
  rintro o ⟨rfl, h4⟩
  have hv : LV l = true := by
    by_cases hv : LV l = true
    · exact hv
    · have : bestD l = -1 := if_neg hv
      omega
  have hD : sizesD l = sizes4 l := if_pos hv
  have hs4 : (sizes4 l).length = 4 := rfl
  obtain ⟨b0, b1, b2, b3⟩ := best_sizes hv
  have hp8 := (packB_len l).1
  rw [hD]
  refine ⟨fun w => 0 ≤ w ∧ w ≤ 4, fun w => (4 - w).toNat, ?_, ?_⟩ <;> dsimp only
  · omega
  rintro w ⟨w0, w1⟩
  rw [sizes_get l b0 b1]
  refine ⟨fun hw => ?_, fun hw => ⟨b0, by omega, by omega, ⟨_, rfl, by omega⟩, by omega, ?_⟩⟩
  · rw [sizes_get l w0 (by omega)]
    refine ⟨w0, hw, by omega, fun h => ⟨w0, hw, by omega, b0, by omega, by omega, fun q => absurd q (b3 w h).1, fun _ => ⟨fun hlt => ⟨w0, hw, by omega, b0, by omega, by omega, fun q => absurd q ((b3 w h).2 hlt), fun _ => ⟨by omega, by omega, by omega⟩⟩, fun _ => ⟨by omega, by omega, by omega⟩⟩⟩, fun _ => ⟨by omega, by omega, by omega⟩⟩
  · rintro p ⟨rfl, _⟩
    exact ⟨fun _ => rfl, fun q => absurd b2 q⟩
def S_l_FnSizeBest : FSpec where
  args := [.sc (.sl .u8)]
  outs := [.sc .bool]
  pre := fun a => match a with
    | [.sc (.sl .u8 code)] => (((code).length : Nat) : Int) ≤ 9223372036854775807
    | _ => False
  post := fun a r => match a, r with
    | [.sc (.sl .u8 code)], [.sc (.bool r)] => r = true
    | _, _ => False
  kept := false
theorem m_l_FnSizeBest : Meets Try.prog 10 S_l_FnSizeBest :=
  meets tok mixed Try.func10 (by kernel_rfl) (l := [(29, S_s_SizeBest), (31, S_i_SizeBest), (36, S_i_SizesOf), (40, S_i_BlockPack), (45, S_s_DrawSizeBest)]) ⟨m_s_SizeBest, m_i_SizeBest, m_i_SizesOf, m_i_BlockPack, m_s_DrawSizeBest, trivial⟩ (ann := [(10, [.slot 7 .int])]) v_l_FnSizeBest (by kernel_rfl)
theorem a_l_FnSizeBest : LawOf Try.prog Try.f10.params.toList S_l_FnSizeBest where
  args := by kernel_rfl
  outs := rfl
  pre := AKs.all_iff.1 (show AKs.all S_l_FnSizeBest.args (fun ds => bnds ds → S_l_FnSizeBest.pre ds) from fun x0 h => h.1)
  post := AKs.all_iff.1 (show AKs.all S_l_FnSizeBest.args (fun ds => ∀ b, S_l_FnSizeBest.post ds [.sc (.bool b)] → b = true) from fun x0 _ h => h)
set_option maxRecDepth 100000 in
theorem lifted_l_FnSizeBest (os : Os) (started : os.Started) (H : Type) (enc : TypeId × Value → H) :
    ReturnsInHanded {} Try.checked os 10 .any (Rows.fnSizeBestSpec.pre6 enc Try.prog Try.f10 Rows.fnSizeBestRow.domain false) (Rows.fnSizeBestSpec.post enc Try.prog Try.f10 false true false false) :=
  law_lifted (C := Try.checked) (F := S_l_FnSizeBest) (by kernel_rfl) started (by kernel_rfl) Try.func10
    (ChangeSpec.witness6 (enc := enc) (C := Try.checked) false ⟨#[], #[.slice none 0 0], []⟩ 8 (by kernel_rfl) (by kernel_rfl) (by kernel_rfl) (by kernel_rfl))
    m_l_FnSizeBest a_l_FnSizeBest (by kernel_rfl) (of_decide_eq_true (by kernel_rfl)) rfl (fun ds h => by match ds, h with | [d0], _ => rfl) (by kernel_rfl) Try.underlying4
theorem facts_FnSizeBest : ∀ P : Program, P = Try.prog → P.initOrder.toList = ioNums.map Char.ofNat → joinedFacts P 10 Try.f10 Rows.fnSizeBestSpec Rows.fnSizeBestRow = true := by
  intro P hP h
  have h1 := io1 P hP h
  have h2 := io2 P hP h
  have h3 := io3 P hP h
  unfold joinedFacts
  rw [h1, h2, h3]
  subst hP
  show (_ : Bool) = true
  kernel_rfl
theorem proved_FnSizeBest : Rows.FnSizeBestSaid :=
  OpenClaim.holds_of_wide 10 Try.f10 rfl rfl rfl rfl rfl rfl rfl ⟨rfl, rfl, rfl, rfl, rfl⟩ rfl rfl rfl rfl rfl (by kernel_rfl) Try.func10 (facts_FnSizeBest _ rfl ioL)
    (of_decide_eq_true (by kernel_rfl)) (by unfold Func.isWrapper; first | (rw [if_pos (by decide +kernel)]; kernel_rfl) | (rw [if_neg (by decide +kernel)]; exact ⟨rfl, rfl⟩))
    (fun os started H enc _ => lifted_l_FnSizeBest os started H enc)
end Go.Proofs.Ytmfamcaiimhaeaa
