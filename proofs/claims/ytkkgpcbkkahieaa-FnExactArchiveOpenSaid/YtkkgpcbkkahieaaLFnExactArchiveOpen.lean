/-
  FnExactArchiveOpen: for every input the law returns true, and each argument reads afterwards as it read before. No conditions.
-/
import Derived.Test.YtkkgpcbkkahieaaRows
import Derived.Test.YtkkgpcbkkahieaaT
import Derived.Test.YtkkgpcbkkahieaaBFnExactArchiveOpen
set_option linter.unusedVariables false
set_option linter.unusedSimpArgs false
open Go Go.Ax Go.Mx Go.ChangeShapes Go.WideShapes Go.RowKit Go.ChangeAt
namespace Go.Proofs.Ytkkgpcbkkahieaa
def S_l_FnExactArchiveOpen : FSpec where
  args := [.sc (.sl .int)]
  outs := [.sc .bool]
  pre := fun a => match a with
    | [.sc (.sl .int aBytes)] => (((aBytes).length : Nat) : Int) ≤ 9223372036854775807
    | _ => False
  post := fun a r => match a, r with
    | [.sc (.sl .int aBytes)], [.sc (.bool r)] => r = true
    | _, _ => False
  kept := false
theorem m_l_FnExactArchiveOpen : Meets Try.prog 4 S_l_FnExactArchiveOpen :=
  meets_of_F mf_l_FnExactArchiveOpen (by kernel_rfl) rfl (fun _ _ => rfl) rfl rfl (by kernel_rfl) (by kernel_rfl) (fun ds h => h) (fun ds rs h q => q)
theorem a_l_FnExactArchiveOpen : LawOf Try.prog Try.f4.params.toList S_l_FnExactArchiveOpen where
  args := by kernel_rfl
  outs := rfl
  pre := AKs.all_iff.1 (show AKs.all S_l_FnExactArchiveOpen.args (fun ds => bnds ds → S_l_FnExactArchiveOpen.pre ds) from fun x0 h => h.1)
  post := AKs.all_iff.1 (show AKs.all S_l_FnExactArchiveOpen.args (fun ds => ∀ b, S_l_FnExactArchiveOpen.post ds [.sc (.bool b)] → b = true) from fun x0 _ h => h)
set_option maxRecDepth 100000 in
theorem lifted_l_FnExactArchiveOpen (os : Os) (started : os.Started) (H : Type) (enc : TypeId × Value → H) :
    ReturnsInHanded {} Try.checked os 4 .any (Rows.fnExactArchiveOpenSpec.pre6 enc Try.prog Try.f4 Rows.fnExactArchiveOpenRow.domain false) (Rows.fnExactArchiveOpenSpec.post enc Try.prog Try.f4 false true false false) :=
  law_lifted (C := Try.checked) (F := S_l_FnExactArchiveOpen) (by kernel_rfl) started (by kernel_rfl) Try.func4
    (ChangeSpec.witness6 (enc := enc) (C := Try.checked) false ⟨#[], #[.slice none 0 0], []⟩ 8 (by kernel_rfl) (by kernel_rfl) (by kernel_rfl) (by kernel_rfl))
    m_l_FnExactArchiveOpen a_l_FnExactArchiveOpen (by kernel_rfl) (of_decide_eq_true (by kernel_rfl)) rfl (fun ds h => by match ds, h with | [d0], _ => rfl) (by kernel_rfl) Try.underlying4 (by kernel_rfl)
theorem facts_FnExactArchiveOpen : ∀ P : Program, P = Try.prog → P.initOrder.toList = ioNums.map Char.ofNat → joinedFacts P 4 Try.f4 Rows.fnExactArchiveOpenSpec Rows.fnExactArchiveOpenRow = true := by
  intro P hP h
  have h1 := io1 P hP h
  have h2 := io2 P hP h
  have h3 := io3 P hP h
  unfold joinedFacts
  rw [h1, h2, h3]
  subst hP
  show (_ : Bool) = true
  kernel_rfl
theorem proved_FnExactArchiveOpen : Rows.FnExactArchiveOpenSaid :=
  OpenClaim.holds_of_wide 4 Try.f4 rfl rfl rfl rfl rfl rfl rfl ⟨rfl, rfl, rfl, rfl, rfl⟩ rfl rfl rfl rfl rfl (by kernel_rfl) Try.func4 (facts_FnExactArchiveOpen _ rfl ioL)
    (of_decide_eq_true (by kernel_rfl)) (by unfold Func.isWrapper; first | (rw [if_pos (by decide +kernel)]; kernel_rfl) | (rw [if_neg (by decide +kernel)]; exact ⟨rfl, rfl⟩))
    (fun os started H enc _ => lifted_l_FnExactArchiveOpen os started H enc)
end Go.Proofs.Ytkkgpcbkkahieaa
