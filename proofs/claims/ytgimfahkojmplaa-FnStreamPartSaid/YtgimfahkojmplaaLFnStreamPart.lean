/-
  FnStreamPart: for every input the law returns true, and each argument reads afterwards as it read before. No conditions.
-/
import Derived.Test.YtgimfahkojmplaaRows
import Derived.Test.YtgimfahkojmplaaT
import Derived.Test.YtgimfahkojmplaaSa
import Derived.Test.YtgimfahkojmplaaSb
import Derived.Test.YtgimfahkojmplaaSg
import Derived.Test.YtgimfahkojmplaaSj
import Derived.Test.YtgimfahkojmplaaSk
import Derived.Test.YtgimfahkojmplaaSl
import Derived.Test.YtgimfahkojmplaaSm
import Derived.Test.YtgimfahkojmplaaSn
import Derived.Test.YtgimfahkojmplaaSo
import Derived.Test.YtgimfahkojmplaaSp
import Derived.Test.YtgimfahkojmplaaSr
import Derived.Test.YtgimfahkojmplaaSs
import Derived.Test.YtgimfahkojmplaaSt
set_option linter.unusedVariables false
set_option linter.unusedSimpArgs false
open Go Go.Ax Go.Mx Go.ChangeShapes Go.WideShapes Go.RowKit Go.ChangeAt
namespace Go.Proofs.Ytgimfahkojmplaa
def V_l_FnStreamPart : Prop :=
  ∀ (l0 : List UInt8), (l0.length : Int) ≤ (9223372036854775807 : Int) → (1048576 < (l0.length : Int) → true = true) ∧ (¬1048576 < (l0.length : Int) → (l0.length : Int) ≤ 1099511627776 ∧ ∀ (l1 l2 : List Int), ((l1.length : Int) ≤ 6000 ∧
 (l2.length : Int) ≤ 200 → ((l1.length : Int) ≤ 1099511627776 ∧ (l2.length : Int) ≤ 1099511627776) ∧ (true = rdOk l1 l2 true → ((l1.length : Int) ≤ 1099511627776 ∧ (l2.length : Int) ≤ 1099511627776) ∧ (true = rdOk l1 l2 true → ((↑(List.length
 [0]) : Int) ≤ 1099511627776 ∧ (l2.length : Int) ≤ 1099511627776) ∧ (true = rdOk [0] l2 true → false = true) ∧ (false = rdOk [0] l2 true → ((↑(List.length [256]) : Int) ≤ 1099511627776 ∧ (l2.length : Int) ≤ 1099511627776) ∧ (true = rdOk [256]
 l2 false → false = true) ∧ (false = rdOk [256] l2 false → true = true))) ∧ (false = rdOk l1 l2 true → false = true)) ∧ (false = rdOk l1 l2 true → ((l1.length : Int) ≤ 1099511627776 ∧ (l2.length : Int) ≤ 1099511627776) ∧ (true = rdOk l1 l2
 true → false = true) ∧ (false = rdOk l1 l2 true → true = true))) ∧ ((l1.length : Int) ≤ 6000 ∧ (l2.length : Int) ≤ 200 → ((l1.length : Int) ≤ 1099511627776 ∧ (l2.length : Int) ≤ 1099511627776) ∧ (true = rdOk l1 l2 false → ((l1.length : Int)
 ≤ 1099511627776 ∧ (l2.length : Int) ≤ 1099511627776) ∧ (true = rdOk l1 l2 false → ((↑(List.length [0]) : Int) ≤ 1099511627776 ∧ (l2.length : Int) ≤ 1099511627776) ∧ (true = rdOk [0] l2 true → false = true) ∧ (false = rdOk [0] l2 true →
 ((↑(List.length [256]) : Int) ≤ 1099511627776 ∧ (l2.length : Int) ≤ 1099511627776) ∧ (true = rdOk [256] l2 false → false = true) ∧ (false = rdOk [256] l2 false → true = true))) ∧ (false = rdOk l1 l2 false → false = true)) ∧ (false = rdOk l1
 l2 false → ((l1.length : Int) ≤ 1099511627776 ∧ (l2.length : Int) ≤ 1099511627776) ∧ (true = rdOk l1 l2 false → false = true) ∧ (false = rdOk l1 l2 false → true = true))))
theorem v_l_FnStreamPart : V_l_FnStreamPart := by
  unfold V_l_FnStreamPart
  have h1 : ∀ t, rdOk [0] t true = false := fun t => by simp [rdOk]
  have h2 : ∀ t, rdOk [256] t false = false := fun t => by simp [rdOk, allIn]
  intro code hz
  refine ⟨fun _ => rfl, fun hc => ⟨by omega, fun w t => ?_⟩⟩
  simp only [h1, h2]
  simp only [List.length_cons, List.length_nil]
  repeat' (first | apply And.intro | (rintro _ rfl) | (rintro _ _ ⟨rfl, rfl⟩) | (intro (h : _ = _ ∧ _ = _); obtain ⟨_, rfl⟩ := h) | (intro _ (h : _ = _ ∧ _ ≤ _); obtain ⟨rfl, _⟩ := h) | intro _)
  all_goals (first | omega | with_reducible rfl | trivial | contradiction | (simp only [marks_len, marks3_len]; omega) | (rename_i h; simp [marks_len, marks3_len] at h; done) | (rename_i h; simp [marks_len, marks3_len] at h; omega) | (rename_i h _; simp at h; done) | (rename_i h _ _; simp at h; done) | grind)
def S_l_FnStreamPart : FSpec where
  args := [.sc (.sl .u8)]
  outs := [.sc .bool]
  pre := fun a => match a with
    | [.sc (.sl .u8 code)] => (((code).length : Nat) : Int) ≤ 9223372036854775807
    | _ => False
  post := fun a r => match a, r with
    | [.sc (.sl .u8 code)], [.sc (.bool r)] => r = true
    | _, _ => False
  kept := false
theorem m_l_FnStreamPart : Meets Try.prog 4 S_l_FnStreamPart :=
  meets tok mixed Try.func4 (by kernel_rfl) (l := [(21, S_s_DrawStreamValid), (22, S_i_StreamValid), (23, S_s_StreamValid)]) ⟨m_s_DrawStreamValid, m_i_StreamValid, m_s_StreamValid, trivial⟩ (ann := []) v_l_FnStreamPart (by kernel_rfl)
theorem a_l_FnStreamPart : LawOf Try.prog Try.f4.params.toList S_l_FnStreamPart where
  args := by kernel_rfl
  outs := rfl
  pre := AKs.all_iff.1 (show AKs.all S_l_FnStreamPart.args (fun ds => bnds ds → S_l_FnStreamPart.pre ds) from fun x0 h => h.1)
  post := AKs.all_iff.1 (show AKs.all S_l_FnStreamPart.args (fun ds => ∀ b, S_l_FnStreamPart.post ds [.sc (.bool b)] → b = true) from fun x0 _ h => h)
set_option maxRecDepth 100000 in
theorem lifted_l_FnStreamPart (os : Os) (started : os.Started) (H : Type) (enc : TypeId × Value → H) :
    ReturnsInHanded {} Try.checked os 4 .any (Rows.fnStreamPartSpec.pre6 enc Try.prog Try.f4 Rows.fnStreamPartRow.domain false) (Rows.fnStreamPartSpec.post enc Try.prog Try.f4 false true false false) :=
  law_lifted (C := Try.checked) (F := S_l_FnStreamPart) (by kernel_rfl) started (by kernel_rfl) Try.func4
    (ChangeSpec.witness6 (enc := enc) (C := Try.checked) false ⟨#[], #[.slice none 0 0], []⟩ 8 (by kernel_rfl) (by kernel_rfl) (by kernel_rfl) (by kernel_rfl))
    m_l_FnStreamPart a_l_FnStreamPart (by kernel_rfl) (of_decide_eq_true (by kernel_rfl)) rfl (fun ds h => by match ds, h with | [d0], _ => rfl) (by kernel_rfl) Try.underlying4
theorem facts_FnStreamPart : ∀ P : Program, P = Try.prog → P.initOrder.toList = ioNums.map Char.ofNat → joinedFacts P 4 Try.f4 Rows.fnStreamPartSpec Rows.fnStreamPartRow = true := by
  intro P hP h
  have h1 := io1 P hP h
  have h2 := io2 P hP h
  have h3 := io3 P hP h
  unfold joinedFacts
  rw [h1, h2, h3]
  subst hP
  show (_ : Bool) = true
  kernel_rfl
theorem proved_FnStreamPart : Rows.FnStreamPartSaid :=
  OpenClaim.holds_of_wide 4 Try.f4 rfl rfl rfl rfl rfl rfl rfl ⟨rfl, rfl, rfl, rfl, rfl⟩ rfl rfl rfl rfl rfl (by kernel_rfl) Try.func4 (facts_FnStreamPart _ rfl ioL)
    (of_decide_eq_true (by kernel_rfl)) (by unfold Func.isWrapper; first | (rw [if_pos (by decide +kernel)]; kernel_rfl) | (rw [if_neg (by decide +kernel)]; exact ⟨rfl, rfl⟩))
    (fun os started H enc _ => lifted_l_FnStreamPart os started H enc)
end Go.Proofs.Ytgimfahkojmplaa
