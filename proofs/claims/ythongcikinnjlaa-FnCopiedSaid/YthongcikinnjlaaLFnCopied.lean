/-
  FnCopied: for every input the law returns true, and each argument reads afterwards as it read before. No conditions.
-/
import Derived.Test.YthongcikinnjlaaRows
import Derived.Test.YthongcikinnjlaaT
import Derived.Test.YthongcikinnjlaaSa
import Derived.Test.YthongcikinnjlaaSb
import Derived.Test.YthongcikinnjlaaSd
import Derived.Test.YthongcikinnjlaaSe
import Derived.Test.YthongcikinnjlaaSf
set_option linter.unusedVariables false
set_option linter.unusedSimpArgs false
open Go Go.Ax Go.Mx Go.ChangeShapes Go.WideShapes Go.RowKit Go.ChangeAt
namespace Go.Proofs.Ythongcikinnjlaa
def V_l_FnCopied : Prop :=
  ∀ (l0 : List UInt8), (↑(List.length l0) : Int) ≤ 9223372036854775807 → (1048576 < (↑(List.length l0) : Int) → true = true) ∧ (¬1048576 < (↑(List.length l0) : Int) → (↑(List.length l0) : Int) ≤ 1099511627776 ∧ ∀ (l1 : List Int) (l2 : List
    (Int × Int × Int)), (↑(List.length l1) : Int) ≤ 400 ∧ (↑(List.length l2) : Int) ≤ 80 → ((↑(List.length l1) : Int) ≤ 1099511627776 ∧ (↑(List.length l2) : Int) ≤ 1099511627776) ∧ ∀ (n3 : Int), n3 = copiedD l1 l2 → ((↑(List.length l1) : Int) ≤
    1099511627776 ∧ (↑(List.length l2) : Int) ≤ 1099511627776) ∧ ∀ (n4 : Int), n4 = copiedD l1 l2 → (n3 ≠ n4 → (n3 = n4 → true = true) ∧ (¬n3 = n4 → false = true)) ∧ (¬n3 ≠ n4 → (n4 < 0 → (n3 = n4 → true = true) ∧ (¬n3 = n4 → false = true)) ∧
    (¬n4 < 0 → ((↑(List.length l1) : Int) ≤ 1099511627776 ∧ (↑(List.length l2) : Int) ≤ 1099511627776) ∧ ∀ (l5 : List Int), (true = Option.isSome (deltaApply l1 l2) ∧ l5 = Option.getD (deltaApply l1 l2) [] → ∃ (I6 : Int → Int → Prop), ∃ (m7 :
    Int → Int → Nat), I6 n3 0 ∧ ∀ (n8 n9 : Int), I6 n8 n9 → (n9 < (↑(List.length l2) : Int) → 0 ≤ n9 ∧ n9 < (↑(List.length l2) : Int) ∧ Int.toNat n9 < List.length l2 ∧ (Prod.snd (Prod.snd (List.getD l2 (Int.toNat n9) (0, 0, 0))) = 0 →
    (-9223372036854775808 ≤ n8 + 1 ∧ n8 + (1 : Int) ≤ 9223372036854775807) ∧ (-9223372036854775808 ≤ n9 + 1 ∧ n9 + (1 : Int) ≤ 9223372036854775807) ∧ I6 (n8 + 1) (n9 + 1) ∧ m7 (n8 + 1) (n9 + 1) < m7 n8 n9) ∧ (¬Prod.snd (Prod.snd (List.getD l2 (Int.toNat n9) (0,
    0, 0))) = 0 → (-9223372036854775808 ≤ n9 + 1 ∧ n9 + (1 : Int) ≤ 9223372036854775807) ∧ I6 n8 (n9 + 1) ∧ m7 n8 (n9 + 1) < m7 n8 n9)) ∧ (¬n9 < (↑(List.length l2) : Int) → (n8 = (↑(List.length l5) : Int) → true = true) ∧ (¬n8 = (↑(List.length l5) :
    Int) → false = true))) ∧ (false = Option.isSome (deltaApply l1 l2) ∧ l5 = Option.getD (deltaApply l1 l2) [] → ∃ (I10 : Int → Int → Prop), ∃ (m11 : Int → Int → Nat), I10 n3 0 ∧ ∀ (n12 n13 : Int), I10 n12 n13 → (n13 < (↑(List.length l2) : Int)
    → 0 ≤ n13 ∧ n13 < (↑(List.length l2) : Int) ∧ Int.toNat n13 < List.length l2 ∧ (Prod.snd (Prod.snd (List.getD l2 (Int.toNat n13) (0, 0, 0))) = 0 → (-9223372036854775808 ≤ n12 + 1 ∧ n12 + (1 : Int) ≤ 9223372036854775807) ∧ (-9223372036854775808 ≤ n13
    + 1 ∧ n13 + (1 : Int) ≤ 9223372036854775807) ∧ I10 (n12 + 1) (n13 + 1) ∧ m11 (n12 + 1) (n13 + 1) < m11 n12 n13) ∧ (¬Prod.snd (Prod.snd (List.getD l2 (Int.toNat n13) (0, 0, 0))) = 0 → (-9223372036854775808 ≤ n13 + 1 ∧ n13 + (1 : Int) ≤ 9223372036854775807) ∧
    I10 n12 (n13 + 1) ∧ m11 n12 (n13 + 1) < m11 n12 n13)) ∧ (¬n13 < (↑(List.length l2) : Int) → false = true)))))
theorem v_l_FnCopied : V_l_FnCopied := by
  unfold V_l_FnCopied
  intro code hz
  refine ⟨fun _ => rfl, fun hc => ⟨by omega, ?_⟩⟩
  intro old ps hb
  have hal := applyD_len old ps
  have hc : ¬ copiedD old ps < 0 → ∃ r, deltaApply old ps = some r ∧ copiedD old ps + zeros ps = r.length ∧ copiedD old ps ≤ 40 ∧ zeros ps ≤ 40 := copied_len
  repeat' (first | apply And.intro | (rintro _ rfl) | (rintro _ _ ⟨rfl, rfl⟩) | (intro (h : _ = _ ∧ _ = _); obtain ⟨_, rfl⟩ := h) | (intro _ (h : _ = _ ∧ _ ≤ _); obtain ⟨rfl, _⟩ := h) | intro _)
  all_goals try (first | omega | with_reducible rfl | (simp only [marks_len, marks3_len]; omega) | (rename_i h; simp [marks_len, marks3_len] at h; done) | (rename_i h; simp [marks_len, marks3_len] at h; omega) | grind)
  all_goals
    have hneg : ¬ copiedD old ps < 0 := by assumption
    obtain ⟨r, h1, h2, h3, h4⟩ := hc hneg
    generalize copiedD old ps = c at *
    rw [h1] at *
    simp only [Option.isSome_some, Option.getD_some] at *
    refine ⟨fun n i => 0 ≤ i ∧ i ≤ ps.length ∧ 0 ≤ n ∧ n + zeros (ps.drop i.toNat) = c + zeros ps, fun n i => (ps.length - i).toNat, ?_, ?_⟩ <;> dsimp only
    · simp; omega
    rintro n i ⟨h5, h6, h7, h8⟩
    refine ⟨fun hlt => ?_, fun hge => ?_⟩
    · rw [zeros_step h5 hlt] at h8
      have := zeros_nonneg (ps.drop (i + 1).toNat)
      refine ⟨by omega, by omega, by omega, fun h => ?_, fun h => ?_⟩
      · rw [if_pos h] at h8
        exact ⟨by omega, by omega, ⟨by omega, by omega, by omega, by omega⟩, by omega⟩
      · rw [if_neg h] at h8
        exact ⟨by omega, ⟨by omega, by omega, by omega, by omega⟩, by omega⟩
    · rw [zeros_end hge] at h8
      repeat' (first | apply And.intro | (rintro _ rfl) | (rintro _ _ ⟨rfl, rfl⟩) | (intro (h : _ = _ ∧ _ = _); obtain ⟨_, rfl⟩ := h) | (intro _ (h : _ = _ ∧ _ ≤ _); obtain ⟨rfl, _⟩ := h) | intro _)
      all_goals (first | omega | with_reducible rfl | (simp only [marks_len, marks3_len]; omega) | (rename_i h; simp [marks_len, marks3_len] at h; done) | (rename_i h; simp [marks_len, marks3_len] at h; omega) | grind)
def S_l_FnCopied : FSpec where
  args := [.sc (.sl .u8)]
  outs := [.sc .bool]
  pre := fun a => match a with
    | [.sc (.sl .u8 code)] => (((code).length : Nat) : Int) ≤ 9223372036854775807
    | _ => False
  post := fun a r => match a, r with
    | [.sc (.sl .u8 code)], [.sc (.bool r)] => r = true
    | _, _ => False
  kept := false
theorem m_l_FnCopied : Meets Try.prog 20 S_l_FnCopied :=
  meets tok mixed Try.func20 (by kernel_rfl) (l := [(33, S_s_DeltaCopied), (36, S_i_DeltaCopied), (48, S_i_DeltaApply), (66, S_s_DrawDeltaCopied)]) ⟨m_s_DeltaCopied, m_i_DeltaCopied, m_i_DeltaApply, m_s_DrawDeltaCopied, trivial⟩ (ann := [(11, [.slot 9 .int, .slot 10 .int])]) v_l_FnCopied (by kernel_rfl)
theorem a_l_FnCopied : LawOf Try.prog Try.f20.params.toList S_l_FnCopied where
  args := by kernel_rfl
  outs := rfl
  pre := AKs.all_iff.1 (show AKs.all S_l_FnCopied.args (fun ds => bnds ds → S_l_FnCopied.pre ds) from fun x0 h => h.1)
  post := AKs.all_iff.1 (show AKs.all S_l_FnCopied.args (fun ds => ∀ b, S_l_FnCopied.post ds [.sc (.bool b)] → b = true) from fun x0 _ h => h)
set_option maxRecDepth 100000 in
theorem lifted_l_FnCopied (os : Os) (started : os.Started) (H : Type) (enc : TypeId × Value → H) :
    ReturnsInHanded {} Try.checked os 20 .any (Rows.fnCopiedSpec.pre6 enc Try.prog Try.f20 Rows.fnCopiedRow.domain false) (Rows.fnCopiedSpec.post enc Try.prog Try.f20 false true false false) :=
  law_lifted (C := Try.checked) (F := S_l_FnCopied) (by kernel_rfl) started (by kernel_rfl) Try.func20
    (ChangeSpec.witness6 (enc := enc) (C := Try.checked) false ⟨#[], #[.slice none 0 0], []⟩ 8 (by kernel_rfl) (by kernel_rfl) (by kernel_rfl) (by kernel_rfl))
    m_l_FnCopied a_l_FnCopied (by kernel_rfl) (of_decide_eq_true (by kernel_rfl)) rfl (fun ds h => by match ds, h with | [d0], _ => rfl) (by kernel_rfl) Try.underlying4
theorem facts_FnCopied : ∀ P : Program, P = Try.prog → P.initOrder.toList = ioNums.map Char.ofNat → joinedFacts P 20 Try.f20 Rows.fnCopiedSpec Rows.fnCopiedRow = true := by
  intro P hP h
  have h1 := io1 P hP h
  have h2 := io2 P hP h
  have h3 := io3 P hP h
  unfold joinedFacts
  rw [h1, h2, h3]
  subst hP
  show (_ : Bool) = true
  kernel_rfl
theorem proved_FnCopied : Rows.FnCopiedSaid :=
  OpenClaim.holds_of_wide 20 Try.f20 rfl rfl rfl rfl rfl rfl rfl ⟨rfl, rfl, rfl, rfl, rfl⟩ rfl rfl rfl rfl rfl (by kernel_rfl) Try.func20 (facts_FnCopied _ rfl ioL)
    (of_decide_eq_true (by kernel_rfl)) (by unfold Func.isWrapper; first | (rw [if_pos (by decide +kernel)]; kernel_rfl) | (rw [if_neg (by decide +kernel)]; exact ⟨rfl, rfl⟩))
    (fun os started H enc _ => lifted_l_FnCopied os started H enc)
end Go.Proofs.Ythongcikinnjlaa
