/-
  FnDeltaApply: for every input the law returns true, and each argument reads afterwards as it read before. No conditions.
-/
import Derived.Test.YthongcikinnjlaaRows
import Derived.Test.YthongcikinnjlaaT
import Derived.Test.YthongcikinnjlaaSa
import Derived.Test.YthongcikinnjlaaSb
import Derived.Test.YthongcikinnjlaaSd
import Derived.Test.YthongcikinnjlaaSe
import Derived.Test.YthongcikinnjlaaSf
set_option linter.unusedVariables false
set_option linter.unusedSimpArgs false
open Go Go.Ax Go.Mx Go.ChangeShapes Go.WideShapes Go.RowKit Go.ChangeAt
namespace Go.Proofs.Ythongcikinnjlaa
def V_l_FnDeltaApply : Prop :=
  ∀ (l0 : List UInt8), (↑(List.length l0) : Int) ≤ 9223372036854775807 → (1048576 < (↑(List.length l0) : Int) → true = true) ∧ (¬1048576 < (↑(List.length l0) : Int) → (↑(List.length l0) : Int) ≤ 1099511627776 ∧ ∀ (l1 : List Int) (l2 : List
    (Int × Int × Int)), (↑(List.length l1) : Int) ≤ 400 ∧ (↑(List.length l2) : Int) ≤ 80 → ((↑(List.length l1) : Int) ≤ 1099511627776 ∧ (↑(List.length l2) : Int) ≤ 1099511627776) ∧ ∀ (l3 : List Int), (true = Option.isSome (deltaApply l1 l2) ∧ l3
    = Option.getD (deltaApply l1 l2) [] → ((↑(List.length l1) : Int) ≤ 1099511627776 ∧ (↑(List.length l2) : Int) ≤ 1099511627776) ∧ ∀ (l4 : List Int), (true = Option.isSome (deltaApply l1 l2) ∧ l4 = Option.getD (deltaApply l1 l2) [] →
    ((↑(List.length l3) : Int) ≤ 1099511627776 ∧ (↑(List.length l4) : Int) ≤ 1099511627776) ∧ (true = decide (l3 = l4) → ∃ (I5 : Int → Int → Prop), ∃ (m6 : Int → Int → Nat), I5 0 0 ∧ ∀ (n7 n8 : Int), I5 n7 n8 → (n8 < (↑(List.length l2) : Int) →
    0 ≤ n8 ∧ n8 < (↑(List.length l2) : Int) ∧ Int.toNat n8 < List.length l2 ∧ (-9223372036854775808 ≤ n7 + max (Prod.snd (Prod.snd (List.getD l2 (Int.toNat n8) (0, 0, 0)))) 1 ∧ n7 + max (Prod.snd (Prod.snd (List.getD l2 (Int.toNat n8) (0, 0,
    0)))) (1 : Int) ≤ 9223372036854775807) ∧ (-9223372036854775808 ≤ n8 + 1 ∧ n8 + (1 : Int) ≤ 9223372036854775807) ∧ I5 (n7 + max (Prod.snd (Prod.snd (List.getD l2 (Int.toNat n8) (0, 0, 0)))) 1) (n8 + 1) ∧ m6 (n7 + max (Prod.snd (Prod.snd (List.getD l2
    (Int.toNat n8) (0, 0, 0)))) 1) (n8 + 1) < m6 n7 n8) ∧ (¬n8 < (↑(List.length l2) : Int) → (n7 = (↑(List.length l3) : Int) → (↑(List.length l3) : Int) ≤ 1099511627776 ∧ (true = LV l3 → true = true) ∧ (false = LV l3 → false = true)) ∧ (¬n7 =
    (↑(List.length l3) : Int) → false = true))) ∧ (false = decide (l3 = l4) → ((↑(List.length l3) : Int) ≤ 1099511627776 ∧ (↑(List.length l4) : Int) ≤ 1099511627776) ∧ (true = decide (l3 = l4) → true = true) ∧ (false = decide (l3 = l4) → false =
    true))) ∧ (false = Option.isSome (deltaApply l1 l2) ∧ l4 = Option.getD (deltaApply l1 l2) [] → false = true)) ∧ (false = Option.isSome (deltaApply l1 l2) ∧ l3 = Option.getD (deltaApply l1 l2) [] → ((↑(List.length l1) : Int) ≤ 1099511627776 ∧
    (↑(List.length l2) : Int) ≤ 1099511627776) ∧ ∀ (l9 : List Int), (true = Option.isSome (deltaApply l1 l2) ∧ l9 = Option.getD (deltaApply l1 l2) [] → false = true) ∧ (false = Option.isSome (deltaApply l1 l2) ∧ l9 = Option.getD (deltaApply l1
    l2) [] → ((↑(List.length l3) : Int) ≤ 1099511627776 ∧ (↑(List.length l9) : Int) ≤ 1099511627776) ∧ (true = decide (l3 = l9) → ((↑(List.length l3) : Int) ≤ 1099511627776 ∧ (↑(List.length l9) : Int) ≤ 1099511627776) ∧ (true = decide (l3 = l9)
    → true = true) ∧ (false = decide (l3 = l9) → false = true)) ∧ (false = decide (l3 = l9) → ((↑(List.length l3) : Int) ≤ 1099511627776 ∧ (↑(List.length l9) : Int) ≤ 1099511627776) ∧ (true = decide (l3 = l9) → true = true) ∧ (false = decide (l3
    = l9) → false = true)))))
theorem v_l_FnDeltaApply : V_l_FnDeltaApply := by
  unfold V_l_FnDeltaApply
  intro code hz
  refine ⟨fun _ => rfl, fun hc => ⟨by omega, ?_⟩⟩
  intro old ps hb
  have hal := applyD_len old
  cases hr : deltaApply old ps with
  | none =>
    simp only [Option.isSome_none, Option.getD_none]
    repeat' (first | apply And.intro | (rintro _ rfl) | (rintro _ _ ⟨rfl, rfl⟩) | (intro (h : _ = _ ∧ _ = _); obtain ⟨_, rfl⟩ := h) | (intro _ (h : _ = _ ∧ _ ≤ _); obtain ⟨rfl, _⟩ := h) | intro _)
    all_goals (first | omega | with_reducible rfl | (simp only [marks_len, marks3_len]; omega) | (rename_i h; simp [marks_len, marks3_len] at h; done) | (rename_i h; simp [marks_len, marks3_len] at h; omega) | grind)
  | some r =>
    simp only [Option.isSome_some, Option.getD_some]
    obtain ⟨hs, hv⟩ := apply_valid hr
    have hlen := LV_len hv
    repeat' (first | apply And.intro | (rintro _ rfl) | (rintro _ _ ⟨rfl, rfl⟩) | (intro (h : _ = _ ∧ _ = _); obtain ⟨_, rfl⟩ := h) | (intro _ (h : _ = _ ∧ _ ≤ _); obtain ⟨rfl, _⟩ := h) | intro _)
    all_goals try (first | omega | with_reducible rfl | (simp only [marks_len, marks3_len]; omega) | (rename_i h; simp [marks_len, marks3_len] at h; done) | (rename_i h; simp [marks_len, marks3_len] at h; omega) | grind)
    refine ⟨fun n i => 0 ≤ i ∧ i ≤ ps.length ∧ 0 ≤ n ∧ n + longSum (ps.drop i.toNat) = longSum ps, fun n i => (ps.length - i).toNat, ?_, ?_⟩ <;> dsimp only
    · simp
    rintro n i ⟨h0, h1, h2, h3⟩
    refine ⟨fun hlt => ?_, fun hge => ?_⟩
    · rw [long_step h0 hlt] at h3
      have := long_nonneg (ps.drop (i + 1).toNat)
      refine ⟨by omega, by omega, by omega, by omega, by omega, ⟨by omega, by omega, by omega, by omega⟩, by omega⟩
    · rw [long_end hge] at h3
      repeat' (first | apply And.intro | (rintro _ rfl) | (rintro _ _ ⟨rfl, rfl⟩) | (intro (h : _ = _ ∧ _ = _); obtain ⟨_, rfl⟩ := h) | (intro _ (h : _ = _ ∧ _ ≤ _); obtain ⟨rfl, _⟩ := h) | intro _)
      all_goals (first | omega | with_reducible rfl | (simp only [marks_len, marks3_len]; omega) | (rename_i h; simp [marks_len, marks3_len] at h; done) | (rename_i h; simp [marks_len, marks3_len] at h; omega) | grind)
def S_l_FnDeltaApply : FSpec where
  args := [.sc (.sl .u8)]
  outs := [.sc .bool]
  pre := fun a => match a with
    | [.sc (.sl .u8 code)] => (((code).length : Nat) : Int) ≤ 9223372036854775807
    | _ => False
  post := fun a r => match a, r with
    | [.sc (.sl .u8 code)], [.sc (.bool r)] => r = true
    | _, _ => False
  kept := false
theorem m_l_FnDeltaApply : Meets Try.prog 17 S_l_FnDeltaApply :=
  meets tok mixed Try.func17 (by kernel_rfl) (l := [(47, S_s_DeltaApply), (48, S_i_DeltaApply), (61, S_l_sameInts), (64, S_s_DrawDeltaApply), (65, S_i_ListValid)]) ⟨m_s_DeltaApply, m_i_DeltaApply, m_l_sameInts, m_s_DrawDeltaApply, m_i_ListValid, trivial⟩ (ann := [(10, [.slot 9 .int, .slot 10 .int])]) v_l_FnDeltaApply (by kernel_rfl)
theorem a_l_FnDeltaApply : LawOf Try.prog Try.f17.params.toList S_l_FnDeltaApply where
  args := by kernel_rfl
  outs := rfl
  pre := AKs.all_iff.1 (show AKs.all S_l_FnDeltaApply.args (fun ds => bnds ds → S_l_FnDeltaApply.pre ds) from fun x0 h => h.1)
  post := AKs.all_iff.1 (show AKs.all S_l_FnDeltaApply.args (fun ds => ∀ b, S_l_FnDeltaApply.post ds [.sc (.bool b)] → b = true) from fun x0 _ h => h)
set_option maxRecDepth 100000 in
theorem lifted_l_FnDeltaApply (os : Os) (started : os.Started) (H : Type) (enc : TypeId × Value → H) :
    ReturnsInHanded {} Try.checked os 17 .any (Rows.fnDeltaApplySpec.pre6 enc Try.prog Try.f17 Rows.fnDeltaApplyRow.domain false) (Rows.fnDeltaApplySpec.post enc Try.prog Try.f17 false true false false) :=
  law_lifted (C := Try.checked) (F := S_l_FnDeltaApply) (by kernel_rfl) started (by kernel_rfl) Try.func17
    (ChangeSpec.witness6 (enc := enc) (C := Try.checked) false ⟨#[], #[.slice none 0 0], []⟩ 8 (by kernel_rfl) (by kernel_rfl) (by kernel_rfl) (by kernel_rfl))
    m_l_FnDeltaApply a_l_FnDeltaApply (by kernel_rfl) (of_decide_eq_true (by kernel_rfl)) rfl (fun ds h => by match ds, h with | [d0], _ => rfl) (by kernel_rfl) Try.underlying4
theorem facts_FnDeltaApply : ∀ P : Program, P = Try.prog → P.initOrder.toList = ioNums.map Char.ofNat → joinedFacts P 17 Try.f17 Rows.fnDeltaApplySpec Rows.fnDeltaApplyRow = true := by
  intro P hP h
  have h1 := io1 P hP h
  have h2 := io2 P hP h
  have h3 := io3 P hP h
  unfold joinedFacts
  rw [h1, h2, h3]
  subst hP
  show (_ : Bool) = true
  kernel_rfl
theorem proved_FnDeltaApply : Rows.FnDeltaApplySaid :=
  OpenClaim.holds_of_wide 17 Try.f17 rfl rfl rfl rfl rfl rfl rfl ⟨rfl, rfl, rfl, rfl, rfl⟩ rfl rfl rfl rfl rfl (by kernel_rfl) Try.func17 (facts_FnDeltaApply _ rfl ioL)
    (of_decide_eq_true (by kernel_rfl)) (by unfold Func.isWrapper; first | (rw [if_pos (by decide +kernel)]; kernel_rfl) | (rw [if_neg (by decide +kernel)]; exact ⟨rfl, rfl⟩))
    (fun os started H enc _ => lifted_l_FnDeltaApply os started H enc)
end Go.Proofs.Ythongcikinnjlaa
