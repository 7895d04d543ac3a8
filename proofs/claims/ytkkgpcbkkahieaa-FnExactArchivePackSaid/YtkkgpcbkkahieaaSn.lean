/-
  Functions meet their contracts: n_prefix.
-/
import Derived.Test.YtkkgpcbkkahieaaT
import Derived.Test.YtkkgpcbkkahieaaVn
import Derived.Test.YtkkgpcbkkahieaaSa
import Derived.Test.YtkkgpcbkkahieaaSl
import Derived.Test.YtkkgpcbkkahieaaSm
set_option linter.unusedVariables false
set_option linter.unusedSimpArgs false
open Go Go.Ax Go.Mx
namespace Go.Proofs.Ytkkgpcbkkahieaa
def S_i_PrefixEncode : FSpec where
  args := [.sc (.sl .int), .sc (.sl .int)]
  outs := [.sc (.own 3 .int), .sc .bool]
  pre := fun a => match a with
    | [.sc (.sl .int list), .sc (.sl .int lengths)] => (((list).length : Nat) : Int) ≤ 1099511627776 ∧ (((lengths).length : Nat) : Int) ≤ 1099511627776
    | _ => False
  post := fun a r => match a, r with
    | [.sc (.sl .int list), .sc (.sl .int lengths)], [.sc (.sl .int r), .sc (.bool ok)] => ok = (encD list lengths).isSome ∧ r = (encD list lengths).getD []
    | _, _ => False
  kept := false
theorem m_i_PrefixEncode : Meets Try.prog 62 S_i_PrefixEncode :=
  meets tok mixed Try.func62 (by kernel_rfl) (l := [(49, S_i_ListValid), (74, S_i_CodesOf), (80, S_i_BitsPut)]) ⟨m_i_ListValid, m_i_CodesOf, m_i_BitsPut, trivial⟩ (ann := [(6, [.slot 7 (.own 3 .int), .slot 26 .int])]) v_i_PrefixEncode (by kernel_rfl)
def S_s_PrefixEncode : FSpec where
  args := [.sc (.sl .int), .sc (.sl .int)]
  outs := [.sc (.own 3 .int), .sc .bool]
  pre := fun a => match a with
    | [.sc (.sl .int list), .sc (.sl .int lengths)] => (((list).length : Nat) : Int) ≤ 1099511627776 ∧ (((lengths).length : Nat) : Int) ≤ 1099511627776
    | _ => False
  post := fun a r => match a, r with
    | [.sc (.sl .int list), .sc (.sl .int lengths)], [.sc (.sl .int r), .sc (.bool ok)] => ok = (encD list lengths).isSome ∧ r = (encD list lengths).getD []
    | _, _ => False
  kept := false
theorem m_s_PrefixEncode : Meets Try.prog 106 S_s_PrefixEncode :=
  meets tok mixed Try.func106 (by kernel_rfl) (l := [(46, S_s_ListValid), (96, S_s_l1Put), (99, S_s_LengthsValid), (100, S_s_CodesOf)]) ⟨m_s_ListValid, m_s_l1Put, m_s_LengthsValid, m_s_CodesOf, trivial⟩ (ann := [(6, [.slot 6 (.own 3 .int), .slot 8 .int])]) v_s_PrefixEncode (by kernel_rfl)
end Go.Proofs.Ytkkgpcbkkahieaa
