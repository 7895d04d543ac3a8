/-
  FnExactEntriesValid: for every input the law returns true, and each argument reads afterwards as it read before. No conditions.
-/
import Derived.Test.YthongcikinnjlaaRows
import Derived.Test.YthongcikinnjlaaT
import Derived.Test.YthongcikinnjlaaSa
import Derived.Test.YthongcikinnjlaaSi
set_option linter.unusedVariables false
set_option linter.unusedSimpArgs false
open Go Go.Ax Go.Mx Go.ChangeShapes Go.WideShapes Go.RowKit Go.ChangeAt
namespace Go.Proofs.Ythongcikinnjlaa
def V_l_FnExactEntriesValid : Prop :=
  ∀ (l0 : List (Int × List Int)), (↑(List.length l0) : Int) ≤ 9223372036854775807 ∧ Ez l0 → (((↑(List.length l0) : Int) ≤ 9223372036854775807 ∧ Ez l0) ∧ (0 : Int) ≤ 1048576 ∧ (1048576 : Int) ≤ 1000000000000000000) ∧ ∀ (n1 : Int), (n1 = if 1048576 - szE l0 < 0
    then -1 else 1048576 - szE l0) → (n1 < 0 → true = true) ∧ (¬n1 < 0 → szE l0 ≤ 2000000 ∧ ∀ (l2 : List (Int × List Int)), l2 = l0 → szE l2 ≤ 2000000 ∧ (true = entOk l2 → szE l0 ≤ 2000000 ∧ ∀ (l3 : List (Int × List Int)), l3 = l0 → szE l3 ≤
    2000000 ∧ (true = entOk l3 → szE l0 ≤ 2000000 ∧ ∀ (l4 : List (Int × List Int)), l4 = l0 → (szE l3 ≤ 2000000 ∧ szE l4 ≤ 2000000) ∧ (true = decide (l3 = l4) → true = true) ∧ (false = decide (l3 = l4) → false = true)) ∧ (false = entOk l3 →
    false = true)) ∧ (false = entOk l2 → szE l0 ≤ 2000000 ∧ ∀ (l5 : List (Int × List Int)), l5 = l0 → szE l5 ≤ 2000000 ∧ (true = entOk l5 → false = true) ∧ (false = entOk l5 → szE l0 ≤ 2000000 ∧ ∀ (l6 : List (Int × List Int)), l6 = l0 → (szE l5
    ≤ 2000000 ∧ szE l6 ≤ 2000000) ∧ (true = decide (l5 = l6) → true = true) ∧ (false = decide (l5 = l6) → false = true))))
theorem v_l_FnExactEntriesValid : V_l_FnExactEntriesValid := by
  unfold V_l_FnExactEntriesValid
  rintro a ⟨hz, he⟩
  have hsz := sumIn_nonneg a
  have hl : (a.length : Int) ≤ szE a := by unfold szE; omega
  refine ⟨⟨⟨hz, he⟩, by omega, by omega⟩, ?_⟩
  clear hz he
  repeat' (first | apply And.intro | (rintro _ rfl) | (rintro _ _ ⟨rfl, rfl⟩) | (intro (h : _ = _ ∧ _ = _); obtain ⟨_, rfl⟩ := h) | (intro _ (h : _ = _ ∧ _ ≤ _); obtain ⟨rfl, _⟩ := h) | intro _)
  all_goals (first | omega | with_reducible rfl | (simp only [marks_len, marks3_len]; omega) | (rename_i h; simp [marks_len, marks3_len] at h; done) | (rename_i h; simp [marks_len, marks3_len] at h; omega) | grind)
def S_l_FnExactEntriesValid : FSpec where
  args := [.sc (.sl .ent)]
  outs := [.sc .bool]
  pre := fun a => match a with
    | [.sc (.sl .ent aList)] => ((((aList).length : Nat) : Int) ≤ 9223372036854775807 ∧ Ez aList)
    | _ => False
  post := fun a r => match a, r with
    | [.sc (.sl .ent aList)], [.sc (.bool r)] => r = true
    | _, _ => False
  kept := false
theorem m_l_FnExactEntriesValid : Meets Try.prog 4 S_l_FnExactEntriesValid :=
  meets tok mixed Try.func4 (by kernel_rfl) (l := [(27, S_i_EntriesValid), (28, S_s_EntriesValid), (29, S_l_szEntryS), (30, S_l_toEntryS), (31, S_l_eqEntryS)]) ⟨m_i_EntriesValid, m_s_EntriesValid, m_l_szEntryS, m_l_toEntryS, m_l_eqEntryS, trivial⟩ (ann := []) v_l_FnExactEntriesValid (by kernel_rfl)
theorem a_l_FnExactEntriesValid : LawOf Try.prog Try.f4.params.toList S_l_FnExactEntriesValid where
  args := by kernel_rfl
  outs := rfl
  pre := AKs.all_iff.1 (show AKs.all S_l_FnExactEntriesValid.args (fun ds => bnds ds → S_l_FnExactEntriesValid.pre ds) from fun x0 h => h.1)
  post := AKs.all_iff.1 (show AKs.all S_l_FnExactEntriesValid.args (fun ds => ∀ b, S_l_FnExactEntriesValid.post ds [.sc (.bool b)] → b = true) from fun x0 _ h => h)
set_option maxRecDepth 100000 in
theorem lifted_l_FnExactEntriesValid (os : Os) (started : os.Started) (H : Type) (enc : TypeId × Value → H) :
    ReturnsInHanded {} Try.checked os 4 .any (Rows.fnExactEntriesValidSpec.pre6 enc Try.prog Try.f4 Rows.fnExactEntriesValidRow.domain false) (Rows.fnExactEntriesValidSpec.post enc Try.prog Try.f4 false true false false) :=
  law_lifted (C := Try.checked) (F := S_l_FnExactEntriesValid) (by kernel_rfl) started (by kernel_rfl) Try.func4
    (ChangeSpec.witness6 (enc := enc) (C := Try.checked) false ⟨#[], #[.slice none 0 0], []⟩ 8 (by kernel_rfl) (by kernel_rfl) (by kernel_rfl) (by kernel_rfl))
    m_l_FnExactEntriesValid a_l_FnExactEntriesValid (by kernel_rfl) (of_decide_eq_true (by kernel_rfl)) rfl (fun ds h => by match ds, h with | [d0], _ => rfl) (by kernel_rfl) Try.underlying4
theorem facts_FnExactEntriesValid : ∀ P : Program, P = Try.prog → P.initOrder.toList = ioNums.map Char.ofNat → joinedFacts P 4 Try.f4 Rows.fnExactEntriesValidSpec Rows.fnExactEntriesValidRow = true := by
  intro P hP h
  have h1 := io1 P hP h
  have h2 := io2 P hP h
  have h3 := io3 P hP h
  unfold joinedFacts
  rw [h1, h2, h3]
  subst hP
  show (_ : Bool) = true
  kernel_rfl
theorem proved_FnExactEntriesValid : Rows.FnExactEntriesValidSaid :=
  OpenClaim.holds_of_wide 4 Try.f4 rfl rfl rfl rfl rfl rfl rfl ⟨rfl, rfl, rfl, rfl, rfl⟩ rfl rfl rfl rfl rfl (by kernel_rfl) Try.func4 (facts_FnExactEntriesValid _ rfl ioL)
    (of_decide_eq_true (by kernel_rfl)) (by unfold Func.isWrapper; first | (rw [if_pos (by decide +kernel)]; kernel_rfl) | (rw [if_neg (by decide +kernel)]; exact ⟨rfl, rfl⟩))
    (fun os started H enc _ => lifted_l_FnExactEntriesValid os started H enc)
end Go.Proofs.Ythongcikinnjlaa
