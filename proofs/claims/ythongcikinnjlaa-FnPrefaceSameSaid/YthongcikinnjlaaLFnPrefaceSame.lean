/-
  FnPrefaceSame: for every input the law returns true, and each argument reads afterwards as it read before. No conditions.
-/
import Derived.Test.YthongcikinnjlaaRows
import Derived.Test.YthongcikinnjlaaT
import Derived.Test.YthongcikinnjlaaSa
import Derived.Test.YthongcikinnjlaaSb
import Derived.Test.YthongcikinnjlaaSg
import Derived.Test.YthongcikinnjlaaSh
set_option linter.unusedVariables false
set_option linter.unusedSimpArgs false
open Go Go.Ax Go.Mx Go.ChangeShapes Go.WideShapes Go.RowKit Go.ChangeAt
namespace Go.Proofs.Ythongcikinnjlaa
def V_l_FnPrefaceSame : Prop :=
  ∀ (l0 : List UInt8), (↑(List.length l0) : Int) ≤ 9223372036854775807 → (1048576 < (↑(List.length l0) : Int) → true = true) ∧ (¬1048576 < (↑(List.length l0) : Int) → (↑(List.length l0) : Int) ≤ 1099511627776 ∧ ∀ (l1 l2 : List Int),
    (↑(List.length l1) : Int) ≤ 400 ∧ (↑(List.length l2) : Int) ≤ 800 → ((↑(List.length l1) : Int) ≤ 10000000 ∧ (↑(List.length l2) : Int) ≤ 10000000) ∧ ∀ (l3 : List (Int × Int × Int)), l3 = prefD l1 l2 ∧ (↑(List.length l3) : Int) ≤ 40 →
    ((↑(List.length l1) : Int) ≤ 10000000 ∧ (↑(List.length l2) : Int) ≤ 10000000) ∧ ∀ (l4 : List (Int × Int × Int)), l4 = prefD l1 l2 ∧ (↑(List.length l4) : Int) ≤ 40 → ((↑(List.length l3) : Int) ≤ 1099511627776 ∧ (↑(List.length l4) : Int) ≤
    1099511627776) ∧ (true = decide (l3 = l4) → (↑(List.length l2) : Int) ≤ 1099511627776 ∧ (true = LV l2 → ((↑(List.length l2) : Int) < 2 → ((↑(List.length l3) : Int) ≤ 1099511627776 ∧ (↑(List.length l4) : Int) ≤ 1099511627776) ∧ (true = decide
    (l3 = l4) → true = true) ∧ (false = decide (l3 = l4) → false = true)) ∧ (¬(↑(List.length l2) : Int) < 2 → (9 < (↑(List.length l2) : Int) → ((↑(List.length l3) : Int) ≤ 1099511627776 ∧ (↑(List.length l4) : Int) ≤ 1099511627776) ∧ (true =
    decide (l3 = l4) → true = true) ∧ (false = decide (l3 = l4) → false = true)) ∧ (¬9 < (↑(List.length l2) : Int) → ((↑(List.length l2) : Int) ≤ 10000000 ∧ (↑(List.length l2) : Int) ≤ 10000000) ∧ ∀ (l5 : List (Int × Int × Int)), l5 = prefD l2
    l2 ∧ (↑(List.length l5) : Int) ≤ 40 → ((↑(List.length l5) : Int) = 1 → (0 : Int) ≤ 0 ∧ 0 < (↑(List.length l5) : Int) ∧ Int.toNat 0 < List.length l5 ∧ (Prod.snd (Prod.snd (List.getD l5 (Int.toNat 0) (0, 0, 0))) = (↑(List.length l2) : Int) →
    ((↑(List.length l3) : Int) ≤ (↑(List.length l2) : Int) → true = true) ∧ (¬(↑(List.length l3) : Int) ≤ (↑(List.length l2) : Int) → false = true)) ∧ (¬Prod.snd (Prod.snd (List.getD l5 (Int.toNat 0) (0, 0, 0))) = (↑(List.length l2) : Int) →
    false = true)) ∧ (¬(↑(List.length l5) : Int) = 1 → false = true)))) ∧ (false = LV l2 → ((↑(List.length l3) : Int) ≤ 1099511627776 ∧ (↑(List.length l4) : Int) ≤ 1099511627776) ∧ (true = decide (l3 = l4) → true = true) ∧ (false = decide (l3 =
    l4) → false = true))) ∧ (false = decide (l3 = l4) → ((↑(List.length l3) : Int) ≤ 1099511627776 ∧ (↑(List.length l4) : Int) ≤ 1099511627776) ∧ (true = decide (l3 = l4) → true = true) ∧ (false = decide (l3 = l4) → false = true)))
theorem v_l_FnPrefaceSame : V_l_FnPrefaceSame := by
  unfold V_l_FnPrefaceSame
  intro code hz
  refine ⟨fun _ => rfl, fun hc => ⟨by omega, ?_⟩⟩
  intro p l hb
  have hd := prefD_len p l
  have hS : true = LV l → ¬ (l.length : Int) < 2 → ¬ 9 < (l.length : Int) → ∃ x : P3, prefD l l = [x] ∧ x.2.2 = (l.length : Int) := fun h h1 h2 => pref_self h.symm (by omega) (by omega)
  repeat' (first | apply And.intro | (rintro _ rfl) | (rintro _ _ ⟨rfl, rfl⟩) | (intro (h : _ = _ ∧ _ = _); obtain ⟨_, rfl⟩ := h) | (intro _ (h : _ = _ ∧ _ ≤ _); obtain ⟨rfl, _⟩ := h) | intro _)
  all_goals (first | omega | with_reducible rfl | (simp only [marks_len, marks3_len]; omega) | (rename_i h; simp [marks_len, marks3_len] at h; done) | (rename_i h; simp [marks_len, marks3_len] at h; omega) | grind)
def S_l_FnPrefaceSame : FSpec where
  args := [.sc (.sl .u8)]
  outs := [.sc .bool]
  pre := fun a => match a with
    | [.sc (.sl .u8 code)] => (((code).length : Nat) : Int) ≤ 9223372036854775807
    | _ => False
  post := fun a r => match a, r with
    | [.sc (.sl .u8 code)], [.sc (.bool r)] => r = true
    | _, _ => False
  kept := false
theorem m_l_FnPrefaceSame : Meets Try.prog 16 S_l_FnPrefaceSame :=
  meets tok mixed Try.func16 (by kernel_rfl) (l := [(46, S_s_ListValid), (52, S_s_PrefaceTokens), (53, S_i_PrefaceTokens), (62, S_s_DrawPrefaceTokens), (63, S_l_sameTokens)]) ⟨m_s_ListValid, m_s_PrefaceTokens, m_i_PrefaceTokens, m_s_DrawPrefaceTokens, m_l_sameTokens, trivial⟩ (ann := []) v_l_FnPrefaceSame (by kernel_rfl)
theorem a_l_FnPrefaceSame : LawOf Try.prog Try.f16.params.toList S_l_FnPrefaceSame where
  args := by kernel_rfl
  outs := rfl
  pre := AKs.all_iff.1 (show AKs.all S_l_FnPrefaceSame.args (fun ds => bnds ds → S_l_FnPrefaceSame.pre ds) from fun x0 h => h.1)
  post := AKs.all_iff.1 (show AKs.all S_l_FnPrefaceSame.args (fun ds => ∀ b, S_l_FnPrefaceSame.post ds [.sc (.bool b)] → b = true) from fun x0 _ h => h)
set_option maxRecDepth 100000 in
theorem lifted_l_FnPrefaceSame (os : Os) (started : os.Started) (H : Type) (enc : TypeId × Value → H) :
    ReturnsInHanded {} Try.checked os 16 .any (Rows.fnPrefaceSameSpec.pre6 enc Try.prog Try.f16 Rows.fnPrefaceSameRow.domain false) (Rows.fnPrefaceSameSpec.post enc Try.prog Try.f16 false true false false) :=
  law_lifted (C := Try.checked) (F := S_l_FnPrefaceSame) (by kernel_rfl) started (by kernel_rfl) Try.func16
    (ChangeSpec.witness6 (enc := enc) (C := Try.checked) false ⟨#[], #[.slice none 0 0], []⟩ 8 (by kernel_rfl) (by kernel_rfl) (by kernel_rfl) (by kernel_rfl))
    m_l_FnPrefaceSame a_l_FnPrefaceSame (by kernel_rfl) (of_decide_eq_true (by kernel_rfl)) rfl (fun ds h => by match ds, h with | [d0], _ => rfl) (by kernel_rfl) Try.underlying4
theorem facts_FnPrefaceSame : ∀ P : Program, P = Try.prog → P.initOrder.toList = ioNums.map Char.ofNat → joinedFacts P 16 Try.f16 Rows.fnPrefaceSameSpec Rows.fnPrefaceSameRow = true := by
  intro P hP h
  have h1 := io1 P hP h
  have h2 := io2 P hP h
  have h3 := io3 P hP h
  unfold joinedFacts
  rw [h1, h2, h3]
  subst hP
  show (_ : Bool) = true
  kernel_rfl
theorem proved_FnPrefaceSame : Rows.FnPrefaceSameSaid :=
  OpenClaim.holds_of_wide 16 Try.f16 rfl rfl rfl rfl rfl rfl rfl ⟨rfl, rfl, rfl, rfl, rfl⟩ rfl rfl rfl rfl rfl (by kernel_rfl) Try.func16 (facts_FnPrefaceSame _ rfl ioL)
    (of_decide_eq_true (by kernel_rfl)) (by unfold Func.isWrapper; first | (rw [if_pos (by decide +kernel)]; kernel_rfl) | (rw [if_neg (by decide +kernel)]; exact ⟨rfl, rfl⟩))
    (fun os started H enc _ => lifted_l_FnPrefaceSame os started H enc)
end Go.Proofs.Ythongcikinnjlaa
