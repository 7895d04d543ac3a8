/-
  Functions meet their contracts: y_held.
-/
import Derived.Test.YtkkgpcbkkahieaaT
import Derived.Test.YtkkgpcbkkahieaaVy
import Derived.Test.YtkkgpcbkkahieaaSa
set_option linter.unusedVariables false
set_option linter.unusedSimpArgs false
open Go Go.Ax Go.Mx
namespace Go.Proofs.Ytkkgpcbkkahieaa
def S_l_heldEntryS : FSpec where
  args := [.sc (.sl .ent), .sc .int]
  outs := [.sc .int]
  pre := fun a => match a with
    | [.sc (.sl .ent a), .sc (.int _ k)] => szE a ≤ 2000000 ∧ 0 ≤ k ∧ k ≤ 1000000
    | _ => False
  post := fun a r => match a, r with
    | [.sc (.sl .ent a), .sc (.int _ k)], [.sc (.int _ r)] => r = (if a = mrk k a then k + szE a else -1)
    | _, _ => False
  kept := false
theorem m_l_heldEntryS : Meets Try.prog 18 S_l_heldEntryS :=
  meets tok mixed Try.func18 (by kernel_rfl) (l := [(14, S_l_heldIntS)]) ⟨m_l_heldIntS, trivial⟩ (ann := [(2, [.slot 1 .int, .slot 5 .int])]) v_l_heldEntryS (by kernel_rfl)
end Go.Proofs.Ytkkgpcbkkahieaa
