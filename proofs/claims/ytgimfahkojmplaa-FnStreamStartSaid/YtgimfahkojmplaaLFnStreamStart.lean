/-
  FnStreamStart: for every input the law returns true, and each argument reads afterwards as it read before. No conditions.
-/
import Derived.Test.YtgimfahkojmplaaRows
import Derived.Test.YtgimfahkojmplaaT
import Derived.Test.YtgimfahkojmplaaSa
import Derived.Test.YtgimfahkojmplaaSb
import Derived.Test.YtgimfahkojmplaaSg
import Derived.Test.YtgimfahkojmplaaSj
import Derived.Test.YtgimfahkojmplaaSk
import Derived.Test.YtgimfahkojmplaaSl
import Derived.Test.YtgimfahkojmplaaSm
import Derived.Test.YtgimfahkojmplaaSn
import Derived.Test.YtgimfahkojmplaaSo
import Derived.Test.YtgimfahkojmplaaSp
import Derived.Test.YtgimfahkojmplaaSr
import Derived.Test.YtgimfahkojmplaaSs
import Derived.Test.YtgimfahkojmplaaSt
set_option linter.unusedVariables false
set_option linter.unusedSimpArgs false
open Go Go.Ax Go.Mx Go.ChangeShapes Go.WideShapes Go.RowKit Go.ChangeAt
namespace Go.Proofs.Ytgimfahkojmplaa
def V_l_FnStreamStart : Prop :=
  ∀ (l0 : List UInt8), (l0.length : Int) ≤ (9223372036854775807 : Int) → (1048576 < (l0.length : Int) → true = true) ∧ (¬1048576 < (l0.length : Int) → (l0.length : Int) ≤ 1099511627776 ∧ ∀ (l1 l2 : List Int), ((l1.length : Int) ≤ 6000 ∧
 (l2.length : Int) ≤ 200 → ((l1.length : Int) ≤ 1099511627776 ∧ (l2.length : Int) ≤ 1099511627776) ∧ (true = rdOk l1 l2 true → ((l1.length : Int) ≤ 1099511627776 ∧ (l2.length : Int) ≤ 1099511627776) ∧ (true = rdOk l1 l2 true → (↑0 : Int) ≤
 10000000000 ∧ ∀ (l3 : List Int), (true = Option.isSome (allD []) ∧ l3 = Option.getD (allD []) [] ∧ (l3.length : Int) ≤ 120 → ((↑0 : Int) ≤ 1099511627776 ∧ (↑0 : Int) ≤ 1099511627776) ∧ (true = rdOk [] [] false → ((↑0 : Int) ≤ 1099511627776 ∧
 (↑0 : Int) ≤ 1099511627776) ∧ (true = (rdOk [] [] false && !false && decide ((↑0 : Int) = 0)) → ((l3.length : Int) = 0 → true = true) ∧ (¬(l3.length : Int) = 0 → false = true)) ∧ (false = (rdOk [] [] false && !false && decide ((↑0 : Int) =
 0)) → false = true)) ∧ (false = rdOk [] [] false → false = true)) ∧ (false = Option.isSome (allD []) ∧ l3 = Option.getD (allD []) [] ∧ (l3.length : Int) ≤ 120 → ((↑0 : Int) ≤ 1099511627776 ∧ (↑0 : Int) ≤ 1099511627776) ∧ (true = rdOk [] []
 false → ((↑0 : Int) ≤ 1099511627776 ∧ (↑0 : Int) ≤ 1099511627776) ∧ (true = (rdOk [] [] false && !false && decide ((↑0 : Int) = 0)) → false = true) ∧ (false = (rdOk [] [] false && !false && decide ((↑0 : Int) = 0)) → false = true)) ∧ (false
 = rdOk [] [] false → false = true))) ∧ (false = rdOk l1 l2 true → false = true)) ∧ (false = rdOk l1 l2 true → ((l1.length : Int) ≤ 1099511627776 ∧ (l2.length : Int) ≤ 1099511627776) ∧ (true = rdOk l1 l2 true → false = true) ∧ (false = rdOk
 l1 l2 true → (↑0 : Int) ≤ 10000000000 ∧ ∀ (l4 : List Int), (true = Option.isSome (allD []) ∧ l4 = Option.getD (allD []) [] ∧ (l4.length : Int) ≤ 120 → ((↑0 : Int) ≤ 1099511627776 ∧ (↑0 : Int) ≤ 1099511627776) ∧ (true = rdOk [] [] false →
 ((↑0 : Int) ≤ 1099511627776 ∧ (↑0 : Int) ≤ 1099511627776) ∧ (true = (rdOk [] [] false && !false && decide ((↑0 : Int) = 0)) → ((l4.length : Int) = 0 → true = true) ∧ (¬(l4.length : Int) = 0 → false = true)) ∧ (false = (rdOk [] [] false &&
 !false && decide ((↑0 : Int) = 0)) → false = true)) ∧ (false = rdOk [] [] false → false = true)) ∧ (false = Option.isSome (allD []) ∧ l4 = Option.getD (allD []) [] ∧ (l4.length : Int) ≤ 120 → ((↑0 : Int) ≤ 1099511627776 ∧ (↑0 : Int) ≤
 1099511627776) ∧ (true = rdOk [] [] false → ((↑0 : Int) ≤ 1099511627776 ∧ (↑0 : Int) ≤ 1099511627776) ∧ (true = (rdOk [] [] false && !false && decide ((↑0 : Int) = 0)) → false = true) ∧ (false = (rdOk [] [] false && !false && decide ((↑0 :
 Int) = 0)) → false = true)) ∧ (false = rdOk [] [] false → false = true))))) ∧ ((l1.length : Int) ≤ 6000 ∧ (l2.length : Int) ≤ 200 → ((l1.length : Int) ≤ 1099511627776 ∧ (l2.length : Int) ≤ 1099511627776) ∧ (true = rdOk l1 l2 false →
 ((l1.length : Int) ≤ 1099511627776 ∧ (l2.length : Int) ≤ 1099511627776) ∧ (true = rdOk l1 l2 false → (↑0 : Int) ≤ 10000000000 ∧ ∀ (l5 : List Int), (true = Option.isSome (allD []) ∧ l5 = Option.getD (allD []) [] ∧ (l5.length : Int) ≤ 120 →
 ((↑0 : Int) ≤ 1099511627776 ∧ (↑0 : Int) ≤ 1099511627776) ∧ (true = rdOk [] [] false → ((↑0 : Int) ≤ 1099511627776 ∧ (↑0 : Int) ≤ 1099511627776) ∧ (true = (rdOk [] [] false && !false && decide ((↑0 : Int) = 0)) → ((l5.length : Int) = 0 →
 true = true) ∧ (¬(l5.length : Int) = 0 → false = true)) ∧ (false = (rdOk [] [] false && !false && decide ((↑0 : Int) = 0)) → false = true)) ∧ (false = rdOk [] [] false → false = true)) ∧ (false = Option.isSome (allD []) ∧ l5 = Option.getD
 (allD []) [] ∧ (l5.length : Int) ≤ 120 → ((↑0 : Int) ≤ 1099511627776 ∧ (↑0 : Int) ≤ 1099511627776) ∧ (true = rdOk [] [] false → ((↑0 : Int) ≤ 1099511627776 ∧ (↑0 : Int) ≤ 1099511627776) ∧ (true = (rdOk [] [] false && !false && decide ((↑0 :
 Int) = 0)) → false = true) ∧ (false = (rdOk [] [] false && !false && decide ((↑0 : Int) = 0)) → false = true)) ∧ (false = rdOk [] [] false → false = true))) ∧ (false = rdOk l1 l2 false → false = true)) ∧ (false = rdOk l1 l2 false →
 ((l1.length : Int) ≤ 1099511627776 ∧ (l2.length : Int) ≤ 1099511627776) ∧ (true = rdOk l1 l2 false → false = true) ∧ (false = rdOk l1 l2 false → (↑0 : Int) ≤ 10000000000 ∧ ∀ (l6 : List Int), (true = Option.isSome (allD []) ∧ l6 = Option.getD
 (allD []) [] ∧ (l6.length : Int) ≤ 120 → ((↑0 : Int) ≤ 1099511627776 ∧ (↑0 : Int) ≤ 1099511627776) ∧ (true = rdOk [] [] false → ((↑0 : Int) ≤ 1099511627776 ∧ (↑0 : Int) ≤ 1099511627776) ∧ (true = (rdOk [] [] false && !false && decide ((↑0 :
 Int) = 0)) → ((l6.length : Int) = 0 → (-9223372036854775808 ≤ (l1.length : Int) + (l2.length : Int) ∧ (l1.length : Int) + (l2.length : Int) ≤ (9223372036854775807 : Int)) ∧ (0 < (l1.length : Int) + (l2.length : Int) → true = true) ∧ (¬0 <
 (l1.length : Int) + (l2.length : Int) → false = true)) ∧ (¬(l6.length : Int) = 0 → false = true)) ∧ (false = (rdOk [] [] false && !false && decide ((↑0 : Int) = 0)) → false = true)) ∧ (false = rdOk [] [] false → false = true)) ∧ (false =
 Option.isSome (allD []) ∧ l6 = Option.getD (allD []) [] ∧ (l6.length : Int) ≤ 120 → ((↑0 : Int) ≤ 1099511627776 ∧ (↑0 : Int) ≤ 1099511627776) ∧ (true = rdOk [] [] false → ((↑0 : Int) ≤ 1099511627776 ∧ (↑0 : Int) ≤ 1099511627776) ∧ (true =
 (rdOk [] [] false && !false && decide ((↑0 : Int) = 0)) → false = true) ∧ (false = (rdOk [] [] false && !false && decide ((↑0 : Int) = 0)) → false = true)) ∧ (false = rdOk [] [] false → false = true))))))
theorem v_l_FnStreamStart : V_l_FnStreamStart := by
  unfold V_l_FnStreamStart
  intro code hz
  have hA : allD [] = some [] := rfl
  have ok0 : rdOk [] [] false = true := rfl
  refine ⟨fun _ => rfl, fun hc => ⟨by omega, fun w t => ?_⟩⟩
  simp only [hA, ok0, Option.isSome_some, Option.getD_some, decide_true, Bool.not_false, Bool.and_self, Int.ofNat_zero]
  have hpos : rdOk w t false = false → 0 < (w.length : Int) + t.length := fun h => by
    rcases w with _ | ⟨x, w⟩
    · rcases t with _ | ⟨y, t⟩
      · rw [ok0] at h; cases h
      · simp only [List.length_nil, List.length_cons]; omega
    · simp only [List.length_cons]; omega
  repeat' (first | apply And.intro | (rintro _ rfl) | (rintro _ _ ⟨rfl, rfl⟩) | (intro (h : _ = _ ∧ _ = _); obtain ⟨_, rfl⟩ := h) | (intro _ (h : _ = _ ∧ _ ≤ _); obtain ⟨rfl, _⟩ := h) | intro _)
  all_goals (first | omega | with_reducible rfl | trivial | contradiction | (simp only [marks_len, marks3_len]; omega) | (rename_i h; simp [marks_len, marks3_len] at h; done) | (rename_i h; simp [marks_len, marks3_len] at h; omega) | (rename_i h _; simp at h; done) | (rename_i h _ _; simp at h; done) | grind)
def S_l_FnStreamStart : FSpec where
  args := [.sc (.sl .u8)]
  outs := [.sc .bool]
  pre := fun a => match a with
    | [.sc (.sl .u8 code)] => (((code).length : Nat) : Int) ≤ 9223372036854775807
    | _ => False
  post := fun a r => match a, r with
    | [.sc (.sl .u8 code)], [.sc (.bool r)] => r = true
    | _, _ => False
  kept := false
theorem m_l_FnStreamStart : Meets Try.prog 6 S_l_FnStreamStart :=
  meets tok mixed Try.func6 (by kernel_rfl) (l := [(21, S_s_DrawStreamValid), (22, S_i_StreamValid), (23, S_s_StreamValid), (25, S_i_StreamEnd), (27, S_i_StreamAll)]) ⟨m_s_DrawStreamValid, m_i_StreamValid, m_s_StreamValid, m_i_StreamEnd, m_i_StreamAll, trivial⟩ (ann := []) v_l_FnStreamStart (by kernel_rfl)
theorem a_l_FnStreamStart : LawOf Try.prog Try.f6.params.toList S_l_FnStreamStart where
  args := by kernel_rfl
  outs := rfl
  pre := AKs.all_iff.1 (show AKs.all S_l_FnStreamStart.args (fun ds => bnds ds → S_l_FnStreamStart.pre ds) from fun x0 h => h.1)
  post := AKs.all_iff.1 (show AKs.all S_l_FnStreamStart.args (fun ds => ∀ b, S_l_FnStreamStart.post ds [.sc (.bool b)] → b = true) from fun x0 _ h => h)
set_option maxRecDepth 100000 in
theorem lifted_l_FnStreamStart (os : Os) (started : os.Started) (H : Type) (enc : TypeId × Value → H) :
    ReturnsInHanded {} Try.checked os 6 .any (Rows.fnStreamStartSpec.pre6 enc Try.prog Try.f6 Rows.fnStreamStartRow.domain false) (Rows.fnStreamStartSpec.post enc Try.prog Try.f6 false true false false) :=
  law_lifted (C := Try.checked) (F := S_l_FnStreamStart) (by kernel_rfl) started (by kernel_rfl) Try.func6
    (ChangeSpec.witness6 (enc := enc) (C := Try.checked) false ⟨#[], #[.slice none 0 0], []⟩ 8 (by kernel_rfl) (by kernel_rfl) (by kernel_rfl) (by kernel_rfl))
    m_l_FnStreamStart a_l_FnStreamStart (by kernel_rfl) (of_decide_eq_true (by kernel_rfl)) rfl (fun ds h => by match ds, h with | [d0], _ => rfl) (by kernel_rfl) Try.underlying4
theorem facts_FnStreamStart : ∀ P : Program, P = Try.prog → P.initOrder.toList = ioNums.map Char.ofNat → joinedFacts P 6 Try.f6 Rows.fnStreamStartSpec Rows.fnStreamStartRow = true := by
  intro P hP h
  have h1 := io1 P hP h
  have h2 := io2 P hP h
  have h3 := io3 P hP h
  unfold joinedFacts
  rw [h1, h2, h3]
  subst hP
  show (_ : Bool) = true
  kernel_rfl
theorem proved_FnStreamStart : Rows.FnStreamStartSaid :=
  OpenClaim.holds_of_wide 6 Try.f6 rfl rfl rfl rfl rfl rfl rfl ⟨rfl, rfl, rfl, rfl, rfl⟩ rfl rfl rfl rfl rfl (by kernel_rfl) Try.func6 (facts_FnStreamStart _ rfl ioL)
    (of_decide_eq_true (by kernel_rfl)) (by unfold Func.isWrapper; first | (rw [if_pos (by decide +kernel)]; kernel_rfl) | (rw [if_neg (by decide +kernel)]; exact ⟨rfl, rfl⟩))
    (fun os started H enc _ => lifted_l_FnStreamStart os started H enc)
end Go.Proofs.Ytgimfahkojmplaa
