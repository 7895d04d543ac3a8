/-
  FnEnd: for every input the law returns true, and each argument reads afterwards as it read before. No conditions.
-/
import Derived.Test.YtgimfahkojmplaaRows
import Derived.Test.YtgimfahkojmplaaT
import Derived.Test.YtgimfahkojmplaaSa
import Derived.Test.YtgimfahkojmplaaSb
import Derived.Test.YtgimfahkojmplaaSg
import Derived.Test.YtgimfahkojmplaaSj
import Derived.Test.YtgimfahkojmplaaSk
import Derived.Test.YtgimfahkojmplaaSl
import Derived.Test.YtgimfahkojmplaaSm
import Derived.Test.YtgimfahkojmplaaSn
import Derived.Test.YtgimfahkojmplaaSo
import Derived.Test.YtgimfahkojmplaaSp
import Derived.Test.YtgimfahkojmplaaSr
import Derived.Test.YtgimfahkojmplaaSs
import Derived.Test.YtgimfahkojmplaaSt
set_option linter.unusedVariables false
set_option linter.unusedSimpArgs false
open Go Go.Ax Go.Mx Go.ChangeShapes Go.WideShapes Go.RowKit Go.ChangeAt
namespace Go.Proofs.Ytgimfahkojmplaa
def V_l_FnEnd : Prop :=
  ∀ (l0 : List UInt8), (l0.length : Int) ≤ (9223372036854775807 : Int) → (1048576 < (l0.length : Int) → true = true) ∧ (¬1048576 < (l0.length : Int) → (l0.length : Int) ≤ 1099511627776 ∧ ∀ (l1 l2 : List Int), ((l1.length : Int) ≤ 6000 ∧
 (l2.length : Int) ≤ 200 → ((l1.length : Int) ≤ 1099511627776 ∧ (l2.length : Int) ≤ 1099511627776) ∧ (true = (rdOk l1 l2 true && !true && decide ((l1.length : Int) = 0)) → ((l1.length : Int) ≤ 1099511627776 ∧ (l2.length : Int) ≤
 1099511627776) ∧ (true = (rdOk l1 l2 true && !true && decide ((l1.length : Int) = 0)) → ((l1.length : Int) ≤ 1099511627776 ∧ (l2.length : Int) ≤ 1099511627776) ∧ (true = rdOk l1 l2 true → false = true) ∧ (false = rdOk l1 l2 true → false =
 true)) ∧ (false = (rdOk l1 l2 true && !true && decide ((l1.length : Int) = 0)) → false = true)) ∧ (false = (rdOk l1 l2 true && !true && decide ((l1.length : Int) = 0)) → ((l1.length : Int) ≤ 1099511627776 ∧ (l2.length : Int) ≤ 1099511627776)
 ∧ (true = (rdOk l1 l2 true && !true && decide ((l1.length : Int) = 0)) → false = true) ∧ (false = (rdOk l1 l2 true && !true && decide ((l1.length : Int) = 0)) → ((l1.length : Int) ≤ 1099511627776 ∧ (l2.length : Int) ≤ 1099511627776) ∧ (true
 = rdOk l1 l2 true → true = true) ∧ (false = rdOk l1 l2 true → true = true)))) ∧ ((l1.length : Int) ≤ 6000 ∧ (l2.length : Int) ≤ 200 → ((l1.length : Int) ≤ 1099511627776 ∧ (l2.length : Int) ≤ 1099511627776) ∧ (true = (rdOk l1 l2 false &&
 !false && decide ((l1.length : Int) = 0)) → ((l1.length : Int) ≤ 1099511627776 ∧ (l2.length : Int) ≤ 1099511627776) ∧ (true = (rdOk l1 l2 false && !false && decide ((l1.length : Int) = 0)) → ((l1.length : Int) ≤ 1099511627776 ∧ (l2.length :
 Int) ≤ 1099511627776) ∧ (true = rdOk l1 l2 false → ((l1.length : Int) = 0 → true = true) ∧ (¬(l1.length : Int) = 0 → false = true)) ∧ (false = rdOk l1 l2 false → false = true)) ∧ (false = (rdOk l1 l2 false && !false && decide ((l1.length :
 Int) = 0)) → false = true)) ∧ (false = (rdOk l1 l2 false && !false && decide ((l1.length : Int) = 0)) → ((l1.length : Int) ≤ 1099511627776 ∧ (l2.length : Int) ≤ 1099511627776) ∧ (true = (rdOk l1 l2 false && !false && decide ((l1.length :
 Int) = 0)) → false = true) ∧ (false = (rdOk l1 l2 false && !false && decide ((l1.length : Int) = 0)) → ((l1.length : Int) ≤ 1099511627776 ∧ (l2.length : Int) ≤ 1099511627776) ∧ (true = rdOk l1 l2 false → ((l1.length : Int) = 0 → false =
 true) ∧ (¬(l1.length : Int) = 0 → true = true)) ∧ (false = rdOk l1 l2 false → true = true)))))
theorem v_l_FnEnd : V_l_FnEnd := by
  unfold V_l_FnEnd
  intro code hz
  refine ⟨fun _ => rfl, fun hc => ⟨by omega, fun w t => ?_⟩⟩
  have hlen : (w.length : Int) = 0 ↔ w = [] := ⟨fun h => List.eq_nil_of_length_eq_zero (by omega), fun h => by rw [h]; rfl⟩
  repeat' (first | apply And.intro | (rintro _ rfl) | (rintro _ _ ⟨rfl, rfl⟩) | (intro (h : _ = _ ∧ _ = _); obtain ⟨_, rfl⟩ := h) | (intro _ (h : _ = _ ∧ _ ≤ _); obtain ⟨rfl, _⟩ := h) | intro _)
  all_goals (first | omega | with_reducible rfl | trivial | contradiction | (simp only [marks_len, marks3_len]; omega) | (rename_i h; simp [marks_len, marks3_len] at h; done) | (rename_i h; simp [marks_len, marks3_len] at h; omega) | (rename_i h _; simp at h; done) | (rename_i h _ _; simp at h; done) | grind)
def S_l_FnEnd : FSpec where
  args := [.sc (.sl .u8)]
  outs := [.sc .bool]
  pre := fun a => match a with
    | [.sc (.sl .u8 code)] => (((code).length : Nat) : Int) ≤ 9223372036854775807
    | _ => False
  post := fun a r => match a, r with
    | [.sc (.sl .u8 code)], [.sc (.bool r)] => r = true
    | _, _ => False
  kept := false
theorem m_l_FnEnd : Meets Try.prog 5 S_l_FnEnd :=
  meets tok mixed Try.func5 (by kernel_rfl) (l := [(22, S_i_StreamValid), (24, S_s_DrawStreamEnd), (25, S_i_StreamEnd), (26, S_s_StreamEnd)]) ⟨m_i_StreamValid, m_s_DrawStreamEnd, m_i_StreamEnd, m_s_StreamEnd, trivial⟩ (ann := []) v_l_FnEnd (by kernel_rfl)
theorem a_l_FnEnd : LawOf Try.prog Try.f5.params.toList S_l_FnEnd where
  args := by kernel_rfl
  outs := rfl
  pre := AKs.all_iff.1 (show AKs.all S_l_FnEnd.args (fun ds => bnds ds → S_l_FnEnd.pre ds) from fun x0 h => h.1)
  post := AKs.all_iff.1 (show AKs.all S_l_FnEnd.args (fun ds => ∀ b, S_l_FnEnd.post ds [.sc (.bool b)] → b = true) from fun x0 _ h => h)
set_option maxRecDepth 100000 in
theorem lifted_l_FnEnd (os : Os) (started : os.Started) (H : Type) (enc : TypeId × Value → H) :
    ReturnsInHanded {} Try.checked os 5 .any (Rows.fnEndSpec.pre6 enc Try.prog Try.f5 Rows.fnEndRow.domain false) (Rows.fnEndSpec.post enc Try.prog Try.f5 false true false false) :=
  law_lifted (C := Try.checked) (F := S_l_FnEnd) (by kernel_rfl) started (by kernel_rfl) Try.func5
    (ChangeSpec.witness6 (enc := enc) (C := Try.checked) false ⟨#[], #[.slice none 0 0], []⟩ 8 (by kernel_rfl) (by kernel_rfl) (by kernel_rfl) (by kernel_rfl))
    m_l_FnEnd a_l_FnEnd (by kernel_rfl) (of_decide_eq_true (by kernel_rfl)) rfl (fun ds h => by match ds, h with | [d0], _ => rfl) (by kernel_rfl) Try.underlying4
theorem facts_FnEnd : ∀ P : Program, P = Try.prog → P.initOrder.toList = ioNums.map Char.ofNat → joinedFacts P 5 Try.f5 Rows.fnEndSpec Rows.fnEndRow = true := by
  intro P hP h
  have h1 := io1 P hP h
  have h2 := io2 P hP h
  have h3 := io3 P hP h
  unfold joinedFacts
  rw [h1, h2, h3]
  subst hP
  show (_ : Bool) = true
  kernel_rfl
theorem proved_FnEnd : Rows.FnEndSaid :=
  OpenClaim.holds_of_wide 5 Try.f5 rfl rfl rfl rfl rfl rfl rfl ⟨rfl, rfl, rfl, rfl, rfl⟩ rfl rfl rfl rfl rfl (by kernel_rfl) Try.func5 (facts_FnEnd _ rfl ioL)
    (of_decide_eq_true (by kernel_rfl)) (by unfold Func.isWrapper; first | (rw [if_pos (by decide +kernel)]; kernel_rfl) | (rw [if_neg (by decide +kernel)]; exact ⟨rfl, rfl⟩))
    (fun os started H enc _ => lifted_l_FnEnd os started H enc)
end Go.Proofs.Ytgimfahkojmplaa
