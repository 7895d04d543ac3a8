/-
  Functions meet their contracts: n_prefix.
-/
import Derived.Test.YtfnmhnbadepooaaGreatDoorT
import Derived.Test.YtfnmhnbadepooaaGreatDoorVn
import Derived.Test.YtfnmhnbadepooaaGreatDoorSa
import Derived.Test.YtfnmhnbadepooaaGreatDoorSl
import Derived.Test.YtfnmhnbadepooaaGreatDoorSm
set_option linter.unusedVariables false
set_option linter.unusedSimpArgs false
open Go Go.Ax Go.Mx
namespace Go.Proofs.YtfnmhnbadepooaaGreatDoor
def S_i_PrefixEncode : FSpec where
  args := [.sc (.sl .int), .sc (.sl .int)]
  outs := [.sc (.own 3 .int), .sc .bool]
  pre := fun a => match a with
    | [.sc (.sl .int list), .sc (.sl .int lengths)] => (((list).length : Nat) : Int) ≤ 1099511627776 ∧ (((lengths).length : Nat) : Int) ≤ 1099511627776
    | _ => False
  post := fun a r => match a, r with
    | [.sc (.sl .int list), .sc (.sl .int lengths)], [.sc (.sl .int r), .sc (.bool ok)] => ok = (encD list lengths).isSome ∧ r = (encD list lengths).getD []
    | _, _ => False
  kept := false
theorem m_i_PrefixEncode : Meets Tryz.prog 75 S_i_PrefixEncode :=
  meets tok mixed Tryz.func75 (by kernel_rfl) (l := [(30, S_i_ListValid), (102, S_i_CodesOf), (103, S_i_BitsPut)]) ⟨m_i_ListValid, m_i_CodesOf, m_i_BitsPut, trivial⟩ (ann := [(6, [.slot 7 (.own 3 .int), .slot 26 .int])]) v_i_PrefixEncode (by kernel_rfl)
def S_s_PrefixEncode : FSpec where
  args := [.sc (.sl .int), .sc (.sl .int)]
  outs := [.sc (.own 3 .int), .sc .bool]
  pre := fun a => match a with
    | [.sc (.sl .int list), .sc (.sl .int lengths)] => (((list).length : Nat) : Int) ≤ 1099511627776 ∧ (((lengths).length : Nat) : Int) ≤ 1099511627776
    | _ => False
  post := fun a r => match a, r with
    | [.sc (.sl .int list), .sc (.sl .int lengths)], [.sc (.sl .int r), .sc (.bool ok)] => ok = (encD list lengths).isSome ∧ r = (encD list lengths).getD []
    | _, _ => False
  kept := false
theorem m_s_PrefixEncode : Meets Tryz.prog 124 S_s_PrefixEncode :=
  meets tok mixed Tryz.func124 (by kernel_rfl) (l := [(56, S_s_ListValid), (132, S_s_LengthsValid), (133, S_s_CodesOf), (134, S_s_l1Put)]) ⟨m_s_ListValid, m_s_LengthsValid, m_s_CodesOf, m_s_l1Put, trivial⟩ (ann := [(6, [.slot 6 (.own 3 .int), .slot 8 .int])]) v_s_PrefixEncode (by kernel_rfl)
end Go.Proofs.YtfnmhnbadepooaaGreatDoor
