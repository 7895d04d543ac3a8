/-
  FnExactArchivePack: for every input the law returns true, and each argument reads afterwards as it read before. No conditions.
-/
import Derived.Test.YtkkgpcbkkahieaaRows
import Derived.Test.YtkkgpcbkkahieaaT
import Derived.Test.YtkkgpcbkkahieaaBFnExactArchivePack
set_option linter.unusedVariables false
set_option linter.unusedSimpArgs false
open Go Go.Ax Go.Mx Go.ChangeShapes Go.WideShapes Go.RowKit Go.ChangeAt
namespace Go.Proofs.Ytkkgpcbkkahieaa
def S_l_FnExactArchivePack : FSpec where
  args := [.sc (.sl .ent)]
  outs := [.sc .bool]
  pre := fun a => match a with
    | [.sc (.sl .ent aList)] => (((aList).length : Nat) : Int) ≤ 9223372036854775807 ∧ Ez aList
    | _ => False
  post := fun a r => match a, r with
    | [.sc (.sl .ent aList)], [.sc (.bool r)] => r = true
    | _, _ => False
  kept := false
theorem m_l_FnExactArchivePack : Meets Try.prog 3 S_l_FnExactArchivePack :=
  meets_of_F mf_l_FnExactArchivePack (by kernel_rfl) rfl (fun _ _ => rfl) rfl rfl (by kernel_rfl) (by kernel_rfl) (fun ds h => h) (fun ds rs h q => q)
theorem a_l_FnExactArchivePack : LawOf Try.prog Try.f3.params.toList S_l_FnExactArchivePack where
  args := by kernel_rfl
  outs := rfl
  pre := AKs.all_iff.1 (show AKs.all S_l_FnExactArchivePack.args (fun ds => bnds ds → S_l_FnExactArchivePack.pre ds) from fun x0 h => h.1)
  post := AKs.all_iff.1 (show AKs.all S_l_FnExactArchivePack.args (fun ds => ∀ b, S_l_FnExactArchivePack.post ds [.sc (.bool b)] → b = true) from fun x0 _ h => h)
set_option maxRecDepth 100000 in
theorem lifted_l_FnExactArchivePack (os : Os) (started : os.Started) (H : Type) (enc : TypeId × Value → H) :
    ReturnsInHanded {} Try.checked os 3 .any (Rows.fnExactArchivePackSpec.pre6 enc Try.prog Try.f3 Rows.fnExactArchivePackRow.domain false) (Rows.fnExactArchivePackSpec.post enc Try.prog Try.f3 false true false false) :=
  law_lifted (C := Try.checked) (F := S_l_FnExactArchivePack) (by kernel_rfl) started (by kernel_rfl) Try.func3
    (ChangeSpec.witness6 (enc := enc) (C := Try.checked) false ⟨#[], #[.slice none 0 0], []⟩ 8 (by kernel_rfl) (by kernel_rfl) (by kernel_rfl) (by kernel_rfl))
    m_l_FnExactArchivePack a_l_FnExactArchivePack (by kernel_rfl) (of_decide_eq_true (by kernel_rfl)) rfl (fun ds h => by match ds, h with | [d0], _ => rfl) (by kernel_rfl) Try.underlying4 (by kernel_rfl)
theorem facts_FnExactArchivePack : ∀ P : Program, P = Try.prog → P.initOrder.toList = ioNums.map Char.ofNat → joinedFacts P 3 Try.f3 Rows.fnExactArchivePackSpec Rows.fnExactArchivePackRow = true := by
  intro P hP h
  have h1 := io1 P hP h
  have h2 := io2 P hP h
  have h3 := io3 P hP h
  unfold joinedFacts
  rw [h1, h2, h3]
  subst hP
  show (_ : Bool) = true
  kernel_rfl
theorem proved_FnExactArchivePack : Rows.FnExactArchivePackSaid :=
  OpenClaim.holds_of_wide 3 Try.f3 rfl rfl rfl rfl rfl rfl rfl ⟨rfl, rfl, rfl, rfl, rfl⟩ rfl rfl rfl rfl rfl (by kernel_rfl) Try.func3 (facts_FnExactArchivePack _ rfl ioL)
    (of_decide_eq_true (by kernel_rfl)) (by unfold Func.isWrapper; first | (rw [if_pos (by decide +kernel)]; kernel_rfl) | (rw [if_neg (by decide +kernel)]; exact ⟨rfl, rfl⟩))
    (fun os started H enc _ => lifted_l_FnExactArchivePack os started H enc)
end Go.Proofs.Ytkkgpcbkkahieaa
