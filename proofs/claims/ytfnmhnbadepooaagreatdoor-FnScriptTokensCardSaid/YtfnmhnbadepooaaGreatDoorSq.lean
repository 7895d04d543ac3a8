/-
  Functions meet their contracts: q_size.
-/
import Derived.Test.YtfnmhnbadepooaaGreatDoorT
import Derived.Test.YtfnmhnbadepooaaGreatDoorVq
import Derived.Test.YtfnmhnbadepooaaGreatDoorSa
import Derived.Test.YtfnmhnbadepooaaGreatDoorSp
set_option linter.unusedVariables false
set_option linter.unusedSimpArgs false
open Go Go.Ax Go.Mx
namespace Go.Proofs.YtfnmhnbadepooaaGreatDoor
def S_i_SizesOf : FSpec where
  args := [.sc (.sl .int)]
  outs := [.sc (.own 3 .int)]
  pre := fun a => match a with
    | [.sc (.sl .int list)] => (((list).length : Nat) : Int) ≤ 1099511627776
    | _ => False
  post := fun a r => match a, r with
    | [.sc (.sl .int list)], [.sc (.sl .int r)] => r = sizesD list ∧ (((r).length : Nat) : Int) ≤ 4
    | _, _ => False
  kept := false
theorem m_i_SizesOf : Meets Tryz.prog 33 S_i_SizesOf :=
  meets tok mixed Tryz.func33 (by kernel_rfl) (l := [(30, S_i_ListValid), (49, S_i_BlockAs)]) ⟨m_i_ListValid, m_i_BlockAs, trivial⟩ (ann := [(5, [.slot 3 (.own 3 .int), .slot 4 .int])]) v_i_SizesOf (by kernel_rfl)
def S_s_SizesOf : FSpec where
  args := [.sc (.sl .int)]
  outs := [.sc (.own 3 .int)]
  pre := fun a => match a with
    | [.sc (.sl .int list)] => (((list).length : Nat) : Int) ≤ 1099511627776
    | _ => False
  post := fun a r => match a, r with
    | [.sc (.sl .int list)], [.sc (.sl .int r)] => r = sizesD list ∧ (((r).length : Nat) : Int) ≤ 4
    | _, _ => False
  kept := false
theorem m_s_SizesOf : Meets Tryz.prog 59 S_s_SizesOf :=
  meets tok mixed Tryz.func59 (by kernel_rfl) (l := [(56, S_s_ListValid), (85, S_s_BlockAs)]) ⟨m_s_ListValid, m_s_BlockAs, trivial⟩ (ann := [(3, [.slot 3 (.own 3 .int), .slot 4 .int])]) v_s_SizesOf (by kernel_rfl)
end Go.Proofs.YtfnmhnbadepooaaGreatDoor
