/-
  Functions meet their contracts: g_tokens.
-/
import Derived.Test.YtkkgpcbkkahieaaT
import Derived.Test.YtkkgpcbkkahieaaVg
set_option linter.unusedVariables false
set_option linter.unusedSimpArgs false
open Go Go.Ax Go.Mx
namespace Go.Proofs.Ytkkgpcbkkahieaa
def S_i_matchLong : FSpec where
  args := [.sc (.sl .int), .sc .int, .sc .int]
  outs := [.sc .int]
  pre := fun a => match a with
    | [.sc (.sl .int list), .sc (.int _ at_), .sc (.int _ back)] => (((list).length : Nat) : Int) ≤ 1099511627776 ∧ 0 ≤ at_ ∧ at_ ≤ list.length ∧ 1 ≤ back ∧ back ≤ at_
    | _ => False
  post := fun a r => match a, r with
    | [.sc (.sl .int list), .sc (.int _ at_), .sc (.int _ back)], [.sc (.int _ n)] => n = mlong list at_ back
    | _, _ => False
  kept := false
theorem m_i_matchLong : Meets Try.prog 94 S_i_matchLong :=
  meets tok mixed Try.func94 (by kernel_rfl) (l := []) trivial (ann := [(2, [.slot 7 .int])]) v_i_matchLong (by kernel_rfl)
def S_s_l14Same : FSpec where
  args := [.sc (.sl .int), .sc .int, .sc .int]
  outs := [.sc .int]
  pre := fun a => match a with
    | [.sc (.sl .int list), .sc (.int _ at_), .sc (.int _ back)] => (((list).length : Nat) : Int) ≤ 1099511627776 ∧ 0 ≤ at_ ∧ at_ ≤ list.length ∧ 1 ≤ back ∧ back ≤ at_
    | _ => False
  post := fun a r => match a, r with
    | [.sc (.sl .int list), .sc (.int _ at_), .sc (.int _ back)], [.sc (.int _ n)] => n = mlong list at_ back
    | _, _ => False
  kept := false
theorem m_s_l14Same : Meets Try.prog 122 S_s_l14Same :=
  meets tok mixed Try.func122 (by kernel_rfl) (l := []) trivial (ann := [(2, [.slot 7 .int])]) v_s_l14Same (by kernel_rfl)
end Go.Proofs.Ytkkgpcbkkahieaa
