/-
  FnArchiveGet: for every input the law returns true, and each argument reads afterwards as it read before. No conditions.
-/
import Derived.Test.YtmfamcaiimhaeaaRows
import Derived.Test.YtmfamcaiimhaeaaT
import Derived.Test.YtmfamcaiimhaeaaSa
import Derived.Test.YtmfamcaiimhaeaaSb
import Derived.Test.YtmfamcaiimhaeaaSf
import Derived.Test.YtmfamcaiimhaeaaSg
import Derived.Test.YtmfamcaiimhaeaaSi
import Derived.Test.YtmfamcaiimhaeaaSj
import Derived.Test.YtmfamcaiimhaeaaSk
import Derived.Test.YtmfamcaiimhaeaaSl
import Derived.Test.YtmfamcaiimhaeaaSm
import Derived.Test.YtmfamcaiimhaeaaSn
import Derived.Test.YtmfamcaiimhaeaaSo
import Derived.Test.YtmfamcaiimhaeaaSp
import Derived.Test.YtmfamcaiimhaeaaSr
import Derived.Test.YtmfamcaiimhaeaaSs
set_option linter.unusedVariables false
set_option linter.unusedSimpArgs false
open Go Go.Ax Go.Mx Go.ChangeShapes Go.WideShapes Go.RowKit Go.ChangeAt
namespace Go.Proofs.Ytmfamcaiimhaeaa
def V_l_FnArchiveGet : Prop :=
  ∀ (l0 l1 : List UInt8), (↑(List.length l0) : Int) ≤ (9223372036854775807 : Int) ∧ (↑(List.length l1) : Int) ≤ (9223372036854775807 : Int) → (1048576 < (↑(List.length l0) : Int) → true = true) ∧ (¬1048576 < (↑(List.length l0) : Int) → (1048576 <
    (↑(List.length l1) : Int) → true = true) ∧ (¬1048576 < (↑(List.length l1) : Int) → (↑(List.length l0) : Int) ≤ 1099511627776 ∧ ∀ (l2 : List (Int × List Int)), (↑(List.length l2) : Int) ≤ 7 ∧ szE l2 ≤ 5000 → szE l2 ≤ 2000000 ∧ ∀ (l3 : List
    Int), (true = entOk l2 ∧ l3 = Option.getD (archD l2) [] → szE l2 ≤ 2000000 ∧ ∀ (l4 : List Int), (true = entOk l2 ∧ l4 = Option.getD (archD l2) [] → ((↑(List.length l3) : Int) ≤ 1099511627776 ∧ (↑(List.length l4) : Int) ≤ 1099511627776) ∧
    (true = decide (l3 = l4) → ((↑(List.length l2) : Int) = 0 → ((↑(List.length l3) : Int) ≤ 1099511627776 ∧ (↑(List.length l4) : Int) ≤ 1099511627776) ∧ (true = decide (l3 = l4) → true = true) ∧ (false = decide (l3 = l4) → false = true)) ∧
    (¬(↑(List.length l2) : Int) = 0 → 0 ≤ (↑(List.length l1) : Int) ∧ 0 < (↑(List.length l2) : Int) ∧ 0 ≤ (↑(List.length l1) : Int) % (↑(List.length l2) : Int) ∧ (↑(List.length l1) : Int) % (↑(List.length l2) : Int) < (↑(List.length l2) : Int) ∧
    Int.toNat ((↑(List.length l1) : Int) % (↑(List.length l2) : Int)) < List.length l2 ∧ (↑(List.length l3) : Int) ≤ 1099511627776 ∧ ∀ (l5 : List Int), (true = Option.isSome (getD' l3 (Prod.fst (List.getD l2 (Int.toNat ((↑(List.length l1) : Int)
    % (↑(List.length l2) : Int))) (0, [])))) ∧ l5 = Option.getD (getD' l3 (Prod.fst (List.getD l2 (Int.toNat ((↑(List.length l1) : Int) % (↑(List.length l2) : Int))) (0, [])))) [] → 0 ≤ (↑(List.length l1) : Int) % (↑(List.length l2) : Int) ∧
    (↑(List.length l1) : Int) % (↑(List.length l2) : Int) < (↑(List.length l2) : Int) ∧ Int.toNat ((↑(List.length l1) : Int) % (↑(List.length l2) : Int)) < List.length l2 ∧ ((↑(List.length l5) : Int) ≤ 1099511627776 ∧ (↑(List.length (Prod.snd
    (List.getD l2 (Int.toNat ((↑(List.length l1) : Int) % (↑(List.length l2) : Int))) (0, [])))) : Int) ≤ 1099511627776) ∧ (true = decide (l5 = Prod.snd (List.getD l2 (Int.toNat ((↑(List.length l1) : Int) % (↑(List.length l2) : Int))) (0, [])))
    → true = true) ∧ (false = decide (l5 = Prod.snd (List.getD l2 (Int.toNat ((↑(List.length l1) : Int) % (↑(List.length l2) : Int))) (0, []))) → false = true)) ∧ (false = Option.isSome (getD' l3 (Prod.fst (List.getD l2 (Int.toNat
    ((↑(List.length l1) : Int) % (↑(List.length l2) : Int))) (0, [])))) ∧ l5 = Option.getD (getD' l3 (Prod.fst (List.getD l2 (Int.toNat ((↑(List.length l1) : Int) % (↑(List.length l2) : Int))) (0, [])))) [] → false = true))) ∧ (false = decide
    (l3 = l4) → ((↑(List.length l3) : Int) ≤ 1099511627776 ∧ (↑(List.length l4) : Int) ≤ 1099511627776) ∧ (true = decide (l3 = l4) → true = true) ∧ (false = decide (l3 = l4) → false = true))) ∧ (false = entOk l2 ∧ l4 = Option.getD (archD l2) []
    → false = true)) ∧ (false = entOk l2 ∧ l3 = Option.getD (archD l2) [] → szE l2 ≤ 2000000 ∧ ∀ (l6 : List Int), (true = entOk l2 ∧ l6 = Option.getD (archD l2) [] → false = true) ∧ (false = entOk l2 ∧ l6 = Option.getD (archD l2) [] →
    ((↑(List.length l3) : Int) ≤ 1099511627776 ∧ (↑(List.length l6) : Int) ≤ 1099511627776) ∧ (true = decide (l3 = l6) → ((↑(List.length l3) : Int) ≤ 1099511627776 ∧ (↑(List.length l6) : Int) ≤ 1099511627776) ∧ (true = decide (l3 = l6) → true =
    true) ∧ (false = decide (l3 = l6) → false = true)) ∧ (false = decide (l3 = l6) → ((↑(List.length l3) : Int) ≤ 1099511627776 ∧ (↑(List.length l6) : Int) ≤ 1099511627776) ∧ (true = decide (l3 = l6) → true = true) ∧ (false = decide (l3 = l6) →
    false = true))))))
theorem v_l_FnArchiveGet : V_l_FnArchiveGet := by
  unfold V_l_FnArchiveGet
  rintro code more ⟨hz, hz'⟩
  refine ⟨fun _ => rfl, fun hc => ⟨fun _ => rfl, fun hm => ⟨by omega, ?_⟩⟩⟩
  rintro es ⟨h7, h5⟩
  have hl := archD_len es
  have no : entOk es = false → archD es = none := fun h => if_neg (by rw [h]; simp)
  cases hok : entOk es with
  | false =>
    rw [no hok] at hl ⊢
    repeat' (first | apply And.intro | (rintro _ rfl) | (rintro _ _ ⟨rfl, rfl⟩) | (intro (h : _ = _ ∧ _ = _); obtain ⟨_, rfl⟩ := h) | (intro _ (h : _ = _ ∧ _ ≤ _); obtain ⟨rfl, _⟩ := h) | intro _)
    all_goals (first | omega | with_reducible rfl | trivial | contradiction | (simp only [marks_len, marks3_len]; omega) | (rename_i h; simp [marks_len, marks3_len] at h; done) | (rename_i h; simp [marks_len, marks3_len] at h; omega) | (rename_i h _; simp at h; done) | (rename_i h _ _; simp at h; done) | grind)
  | true =>
  have hA : archD es = some (packE es) := if_pos hok
  have hO : aopenD (packE es) = some es := aopen_iff.2 hA
  rw [hA] at hl ⊢
  simp only [Option.getD_some] at hl ⊢
  have hk : ¬ (es.length : Int) = 0 → ∀ k : Int, 0 ≤ k → k < (es.length : Int) → getD' (packE es) (es.getD k.toNat (0, [])).1 = some (es.getD k.toNat (0, [])).2 ∧ (es.getD k.toNat (0, [])).2.length ≤ 40 := fun _ k k0 k1 => by
    have hm : k.toNat < es.length := by omega
    rw [getD'_some hO]
    exact ⟨find_mem (entOk_iff.1 hok).1 (by simp [List.getD_eq_getElem?_getD, hm]), LV_len (ent_at hok k0 k1).1⟩
  refine ⟨by omega, fun l2 => ⟨?_, ?_⟩⟩
  · rintro ⟨_, rfl⟩
    refine ⟨by omega, fun l3 => ⟨?_, ?_⟩⟩
    · rintro ⟨_, rfl⟩
      refine ⟨⟨by omega, by omega⟩, fun _ => ⟨fun h0 => ⟨⟨by omega, by omega⟩, fun _ => by trivial, fun q => by simp at q⟩, fun h0 => ?_⟩, fun q => by simp at q⟩
      have m1 := Int.emod_nonneg (more.length : Int) (show (es.length : Int) ≠ 0 by omega)
      have m2 := Int.emod_lt_of_pos (more.length : Int) (show 0 < (es.length : Int) by omega)
      generalize (more.length : Int) % (es.length : Int) = k at *
      obtain ⟨k1, k2⟩ := hk h0 k m1 m2
      rw [k1]
      refine ⟨by omega, by omega, m1, m2, by omega, by omega, fun r => ⟨?_, ?_⟩⟩
      · rintro ⟨_, rfl⟩
        exact ⟨m1, m2, by omega, ⟨by simp only [Option.getD_some]; omega, by omega⟩, fun _ => by trivial, fun q => by simp at q⟩
      · rintro ⟨q, _⟩; cases q
    · rintro ⟨q, _⟩; cases q
  · rintro ⟨q, _⟩; cases q
def S_l_FnArchiveGet : FSpec where
  args := [.sc (.sl .u8), .sc (.sl .u8)]
  outs := [.sc .bool]
  pre := fun a => match a with
    | [.sc (.sl .u8 code), .sc (.sl .u8 more)] => (((code).length : Nat) : Int) ≤ 9223372036854775807 ∧ (((more).length : Nat) : Int) ≤ 9223372036854775807
    | _ => False
  post := fun a r => match a, r with
    | [.sc (.sl .u8 code), .sc (.sl .u8 more)], [.sc (.bool r)] => r = true
    | _, _ => False
  kept := false
theorem m_l_FnArchiveGet : Meets Try.prog 16 S_l_FnArchiveGet :=
  meets tok mixed Try.func16 (by kernel_rfl) (l := [(26, S_i_ArchivePack), (27, S_i_ArchiveGet), (28, S_l_sameInts), (47, S_s_DrawArchivePack), (48, S_s_ArchivePack)]) ⟨m_i_ArchivePack, m_i_ArchiveGet, m_l_sameInts, m_s_DrawArchivePack, m_s_ArchivePack, trivial⟩ (ann := []) v_l_FnArchiveGet (by kernel_rfl)
theorem a_l_FnArchiveGet : LawOf Try.prog Try.f16.params.toList S_l_FnArchiveGet where
  args := by kernel_rfl
  outs := rfl
  pre := AKs.all_iff.1 (show AKs.all S_l_FnArchiveGet.args (fun ds => bnds ds → S_l_FnArchiveGet.pre ds) from fun x0 x1 h => ⟨h.1, h.2.1⟩)
  post := AKs.all_iff.1 (show AKs.all S_l_FnArchiveGet.args (fun ds => ∀ b, S_l_FnArchiveGet.post ds [.sc (.bool b)] → b = true) from fun x0 x1 _ h => h)
set_option maxRecDepth 100000 in
theorem lifted_l_FnArchiveGet (os : Os) (started : os.Started) (H : Type) (enc : TypeId × Value → H) :
    ReturnsInHanded {} Try.checked os 16 .any (Rows.fnArchiveGetSpec.pre6 enc Try.prog Try.f16 Rows.fnArchiveGetRow.domain false) (Rows.fnArchiveGetSpec.post enc Try.prog Try.f16 false true false false) :=
  law_lifted (C := Try.checked) (F := S_l_FnArchiveGet) (by kernel_rfl) started (by kernel_rfl) Try.func16
    (ChangeSpec.witness6 (enc := enc) (C := Try.checked) false ⟨#[], #[.slice none 0 0, .slice none 0 0], []⟩ 8 (by kernel_rfl) (by kernel_rfl) (by kernel_rfl) (by kernel_rfl))
    m_l_FnArchiveGet a_l_FnArchiveGet (by kernel_rfl) (of_decide_eq_true (by kernel_rfl)) rfl (fun ds h => by match ds, h with | [d0, d1], _ => rfl) (by kernel_rfl) Try.underlying4
theorem facts_FnArchiveGet : ∀ P : Program, P = Try.prog → P.initOrder.toList = ioNums.map Char.ofNat → joinedFacts P 16 Try.f16 Rows.fnArchiveGetSpec Rows.fnArchiveGetRow = true := by
  intro P hP h
  have h1 := io1 P hP h
  have h2 := io2 P hP h
  have h3 := io3 P hP h
  unfold joinedFacts
  rw [h1, h2, h3]
  subst hP
  show (_ : Bool) = true
  kernel_rfl
theorem proved_FnArchiveGet : Rows.FnArchiveGetSaid :=
  OpenClaim.holds_of_wide 16 Try.f16 rfl rfl rfl rfl rfl rfl rfl ⟨rfl, rfl, rfl, rfl, rfl⟩ rfl rfl rfl rfl rfl (by kernel_rfl) Try.func16 (facts_FnArchiveGet _ rfl ioL)
    (of_decide_eq_true (by kernel_rfl)) (by unfold Func.isWrapper; first | (rw [if_pos (by decide +kernel)]; kernel_rfl) | (rw [if_neg (by decide +kernel)]; exact ⟨rfl, rfl⟩))
    (fun os started H enc _ => lifted_l_FnArchiveGet os started H enc)
end Go.Proofs.Ytmfamcaiimhaeaa
