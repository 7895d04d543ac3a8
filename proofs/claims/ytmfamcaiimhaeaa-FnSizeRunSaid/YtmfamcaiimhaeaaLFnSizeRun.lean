/-
  FnSizeRun: for every input the law returns true, and each argument reads afterwards as it read before. No conditions.
-/
import Derived.Test.YtmfamcaiimhaeaaRows
import Derived.Test.YtmfamcaiimhaeaaT
import Derived.Test.YtmfamcaiimhaeaaSa
import Derived.Test.YtmfamcaiimhaeaaSb
import Derived.Test.YtmfamcaiimhaeaaSg
import Derived.Test.YtmfamcaiimhaeaaSj
import Derived.Test.YtmfamcaiimhaeaaSk
import Derived.Test.YtmfamcaiimhaeaaSl
import Derived.Test.YtmfamcaiimhaeaaSm
import Derived.Test.YtmfamcaiimhaeaaSn
import Derived.Test.YtmfamcaiimhaeaaSo
import Derived.Test.YtmfamcaiimhaeaaSp
import Derived.Test.YtmfamcaiimhaeaaSq
set_option linter.unusedVariables false
set_option linter.unusedSimpArgs false
open Go Go.Ax Go.Mx Go.ChangeShapes Go.WideShapes Go.RowKit Go.ChangeAt
namespace Go.Proofs.Ytmfamcaiimhaeaa
def V_l_FnSizeRun : Prop :=
  ∀ (l0 l1 : List UInt8), (↑(List.length l0) : Int) ≤ (9223372036854775807 : Int) ∧ (↑(List.length l1) : Int) ≤ (9223372036854775807 : Int) → (1048576 < (↑(List.length l0) : Int) → true = true) ∧ (¬1048576 < (↑(List.length l0) : Int) → (1048576 <
    (↑(List.length l1) : Int) → true = true) ∧ (¬1048576 < (↑(List.length l1) : Int) → (↑(List.length l0) : Int) ≤ 1099511627776 ∧ ∀ (l2 : List Int), (↑(List.length l2) : Int) ≤ 400 → (↑(List.length l2) : Int) ≤ 1099511627776 ∧ ∀ (n3 : Int), n3
    = shareD l2 → (↑(List.length l2) : Int) ≤ 1099511627776 ∧ ∀ (n4 : Int), n4 = shareD l2 → (n3 ≠ n4 → (n3 = n4 → true = true) ∧ (¬n3 = n4 → false = true)) ∧ (¬n3 ≠ n4 → 0 ≤ (↑(List.length l1) : Int) ∧ (0 : Int) < 37 ∧ ((-9223372036854775808 : Int) ≤ 4 +
    (↑(List.length l1) : Int) % 37 ∧ 4 + (↑(List.length l1) : Int) % (37 : Int) ≤ (9223372036854775807 : Int)) ∧ 4 + (↑(List.length l1) : Int) % (37 : Int) = 4 + (↑(List.length l1) : Int) % 37 ∧ (0 : Int) ≤ 4 + (↑(List.length l1) : Int) % 37 ∧ 4 + (↑(List.length l1) : Int) %
    (37 : Int) ≤ 1099511627776 ∧ ∃ (I5 : Int → List Int → Prop), ∃ (m6 : Int → List Int → Nat), I5 0 (List.replicate (Int.toNat (4 + (↑(List.length l1) : Int) % 37)) 0) ∧ ∀ (n7 : Int) (l8 : List Int), I5 n7 l8 → (n7 < (↑(List.length l8) : Int) → 0 ≤
    (↑(List.length l1) : Int) ∧ (0 : Int) < 8 ∧ 0 ≤ n7 ∧ n7 < (↑(List.length l8) : Int) ∧ Int.toNat n7 < List.length l8 ∧ (-9223372036854775808 ≤ n7 + 1 ∧ n7 + (1 : Int) ≤ (9223372036854775807 : Int)) ∧ I5 (n7 + 1) (List.set l8 (Int.toNat n7) ((↑(List.length l1) : Int)
    % 8)) ∧ m6 (n7 + 1) (List.set l8 (Int.toNat n7) ((↑(List.length l1) : Int) % 8)) < m6 n7 l8) ∧ (¬n7 < (↑(List.length l8) : Int) → (↑(List.length l8) : Int) ≤ 1099511627776 ∧ ∀ (l9 : List Int), l9 = sizesD l8 ∧ (↑(List.length l9) : Int) ≤ 4 →
    (0 : Int) ≤ 1 ∧ 1 < (↑(List.length l9) : Int) ∧ Int.toNat 1 < List.length l9 ∧ (List.getD l9 (Int.toNat 1) (0 : Int) = 4 → (↑(List.length l8) : Int) ≤ 1099511627776 ∧ ∀ (l10 : List Int), l10 = packB l8 ∧ (↑(List.length l10) : Int) ≤ 82 → ((↑(List.length
    l10) : Int) ≤ 4 → (-1 ≤ n3 → true = true) ∧ (¬-1 ≤ n3 → false = true)) ∧ (¬(↑(List.length l10) : Int) ≤ 4 → false = true)) ∧ (¬List.getD l9 (Int.toNat 1) (0 : Int) = 4 → false = true)))))
theorem v_l_FnSizeRun : V_l_FnSizeRun := by
  unfold V_l_FnSizeRun
  rintro code more ⟨hz, hz'⟩
  refine ⟨fun _ => rfl, fun hc => ⟨fun _ => rfl, fun hm => ⟨by omega, fun l hl => ⟨by omega, ?_⟩⟩⟩⟩
  rintro n rfl
  refine ⟨by omega, ?_⟩
  rintro n' rfl
  have m0 := Int.emod_nonneg (more.length : Int) (show (37 : Int) ≠ 0 by omega)
  have m1 := Int.emod_lt_of_pos (more.length : Int) (show 0 < (37 : Int) by omega)
  have s0 := Int.emod_nonneg (more.length : Int) (show (8 : Int) ≠ 0 by omega)
  have s1 := Int.emod_lt_of_pos (more.length : Int) (show 0 < (8 : Int) by omega)
  refine ⟨fun q => absurd rfl q, fun _ => ⟨by omega, by omega, by omega, rfl, by omega, by omega, ?_⟩⟩
  generalize (more.length : Int) % 37 = k at *
  generalize (more.length : Int) % 8 = s at *
  refine ⟨fun i o => 0 ≤ i ∧ i ≤ 4 + k ∧ (o.length : Int) = 4 + k ∧ o.take i.toNat = List.replicate i.toNat s, fun i o => (4 + k - i).toNat, ?_, ?_⟩ <;> dsimp only
  · exact ⟨by omega, by omega, by simp; omega, rfl⟩
  rintro i o ⟨i0, i1, i2, hI⟩
  refine ⟨fun hlt => ?_, fun hge => ⟨by omega, ?_⟩⟩
  · refine ⟨by omega, by omega, i0, hlt, by omega, by omega, ⟨by omega, by omega, by simp; omega, ?_⟩, by omega⟩
    rw [set_take i0 hlt, hI, show (i + 1).toNat = i.toNat + 1 by omega, List.replicate_succ']
  · rw [take_ge hge] at hI
    obtain ⟨n, hn⟩ : ∃ n, i.toNat = n + 1 := ⟨i.toNat - 1, by omega⟩
    rw [hn] at hI
    obtain ⟨p1, p2, p3⟩ := pack_rep s0 (by omega : s ≤ 7) (by omega : n + 1 ≤ 40)
    rw [hI]
    have hD : sizesD (List.replicate (n + 1) s) = sizes4 (List.replicate (n + 1) s) := if_pos p1
    rintro z ⟨rfl, _⟩
    rw [hD]
    have g1 := sizes_get (List.replicate (n + 1) s) (w := 1) (by omega) (by omega)
    rw [g1, p2]
    refine ⟨by omega, by simp [sizes4], by simp [sizes4], fun _ => ⟨by simp; omega, ?_⟩, fun q => absurd rfl q⟩
    rintro p ⟨rfl, _⟩
    exact ⟨fun _ => ⟨fun _ => rfl, fun q => absurd (share_low l) q⟩, fun q => absurd (by omega) q⟩
def S_l_FnSizeRun : FSpec where
  args := [.sc (.sl .u8), .sc (.sl .u8)]
  outs := [.sc .bool]
  pre := fun a => match a with
    | [.sc (.sl .u8 code), .sc (.sl .u8 more)] => (((code).length : Nat) : Int) ≤ 9223372036854775807 ∧ (((more).length : Nat) : Int) ≤ 9223372036854775807
    | _ => False
  post := fun a r => match a, r with
    | [.sc (.sl .u8 code), .sc (.sl .u8 more)], [.sc (.bool r)] => r = true
    | _, _ => False
  kept := false
theorem m_l_FnSizeRun : Meets Try.prog 11 S_l_FnSizeRun :=
  meets tok mixed Try.func11 (by kernel_rfl) (l := [(33, S_s_SizeShare), (34, S_i_SizeShare), (36, S_i_SizesOf), (39, S_s_DrawSizeShare), (40, S_i_BlockPack)]) ⟨m_s_SizeShare, m_i_SizeShare, m_i_SizesOf, m_s_DrawSizeShare, m_i_BlockPack, trivial⟩ (ann := [(10, [.slot 9 .int, .arr 8 3 .int])]) v_l_FnSizeRun (by kernel_rfl)
theorem a_l_FnSizeRun : LawOf Try.prog Try.f11.params.toList S_l_FnSizeRun where
  args := by kernel_rfl
  outs := rfl
  pre := AKs.all_iff.1 (show AKs.all S_l_FnSizeRun.args (fun ds => bnds ds → S_l_FnSizeRun.pre ds) from fun x0 x1 h => ⟨h.1, h.2.1⟩)
  post := AKs.all_iff.1 (show AKs.all S_l_FnSizeRun.args (fun ds => ∀ b, S_l_FnSizeRun.post ds [.sc (.bool b)] → b = true) from fun x0 x1 _ h => h)
set_option maxRecDepth 100000 in
theorem lifted_l_FnSizeRun (os : Os) (started : os.Started) (H : Type) (enc : TypeId × Value → H) :
    ReturnsInHanded {} Try.checked os 11 .any (Rows.fnSizeRunSpec.pre6 enc Try.prog Try.f11 Rows.fnSizeRunRow.domain false) (Rows.fnSizeRunSpec.post enc Try.prog Try.f11 false true false false) :=
  law_lifted (C := Try.checked) (F := S_l_FnSizeRun) (by kernel_rfl) started (by kernel_rfl) Try.func11
    (ChangeSpec.witness6 (enc := enc) (C := Try.checked) false ⟨#[], #[.slice none 0 0, .slice none 0 0], []⟩ 8 (by kernel_rfl) (by kernel_rfl) (by kernel_rfl) (by kernel_rfl))
    m_l_FnSizeRun a_l_FnSizeRun (by kernel_rfl) (of_decide_eq_true (by kernel_rfl)) rfl (fun ds h => by match ds, h with | [d0, d1], _ => rfl) (by kernel_rfl) Try.underlying4
theorem facts_FnSizeRun : ∀ P : Program, P = Try.prog → P.initOrder.toList = ioNums.map Char.ofNat → joinedFacts P 11 Try.f11 Rows.fnSizeRunSpec Rows.fnSizeRunRow = true := by
  intro P hP h
  have h1 := io1 P hP h
  have h2 := io2 P hP h
  have h3 := io3 P hP h
  unfold joinedFacts
  rw [h1, h2, h3]
  subst hP
  show (_ : Bool) = true
  kernel_rfl
theorem proved_FnSizeRun : Rows.FnSizeRunSaid :=
  OpenClaim.holds_of_wide 11 Try.f11 rfl rfl rfl rfl rfl rfl rfl ⟨rfl, rfl, rfl, rfl, rfl⟩ rfl rfl rfl rfl rfl (by kernel_rfl) Try.func11 (facts_FnSizeRun _ rfl ioL)
    (of_decide_eq_true (by kernel_rfl)) (by unfold Func.isWrapper; first | (rw [if_pos (by decide +kernel)]; kernel_rfl) | (rw [if_neg (by decide +kernel)]; exact ⟨rfl, rfl⟩))
    (fun os started H enc _ => lifted_l_FnSizeRun os started H enc)
end Go.Proofs.Ytmfamcaiimhaeaa
