/-
  Functions meet their contracts: u_turn.
-/
import Derived.Test.YtfnmhnbadepooaaGreatDoorT
import Derived.Test.YtfnmhnbadepooaaGreatDoorVu
import Derived.Test.YtfnmhnbadepooaaGreatDoorSa
set_option linter.unusedVariables false
set_option linter.unusedSimpArgs false
open Go Go.Ax Go.Mx
namespace Go.Proofs.YtfnmhnbadepooaaGreatDoor
def S_i_rotationBefore : FSpec where
  args := [.sc (.sl .int), .sc .int, .sc .int]
  outs := [.sc .bool]
  pre := fun a => match a with
    | [.sc (.sl .int list), .sc (.int _ a), .sc (.int _ b)] => (((list).length : Nat) : Int) ≤ 1000 ∧ 0 ≤ a ∧ a ≤ 1000 ∧ 0 ≤ b ∧ b ≤ 1000
    | _ => False
  post := fun a r => match a, r with
    | [.sc (.sl .int list), .sc (.int _ a), .sc (.int _ b)], [.sc (.bool r)] => r = rotLt list a b
    | _, _ => False
  kept := false
theorem m_i_rotationBefore : Meets Tryz.prog 77 S_i_rotationBefore :=
  meets tok mixed Tryz.func77 (by kernel_rfl) (l := []) trivial (ann := [(3, [.slot 14 .int])]) v_i_rotationBefore (by kernel_rfl)
def S_s_l16Less : FSpec where
  args := [.sc (.sl .int), .sc .int, .sc .int]
  outs := [.sc .bool]
  pre := fun a => match a with
    | [.sc (.sl .int list), .sc (.int _ a), .sc (.int _ b)] => (((list).length : Nat) : Int) ≤ 1000 ∧ 0 ≤ a ∧ a ≤ 1000 ∧ 0 ≤ b ∧ b ≤ 1000
    | _ => False
  post := fun a r => match a, r with
    | [.sc (.sl .int list), .sc (.int _ a), .sc (.int _ b)], [.sc (.bool r)] => r = rotLt list a b
    | _, _ => False
  kept := false
theorem m_s_l16Less : Meets Tryz.prog 111 S_s_l16Less :=
  meets tok mixed Tryz.func111 (by kernel_rfl) (l := []) trivial (ann := [(2, [.slot 7 .int])]) v_s_l16Less (by kernel_rfl)
def S_i_RotationsOf : FSpec where
  args := [.sc (.sl .int)]
  outs := [.sc (.own 3 .int)]
  pre := fun a => match a with
    | [.sc (.sl .int list)] => (((list).length : Nat) : Int) ≤ 1099511627776
    | _ => False
  post := fun a r => match a, r with
    | [.sc (.sl .int list)], [.sc (.sl .int r)] => r = (if LV list = true then rotsD list else []) ∧ (((r).length : Nat) : Int) ≤ 40
    | _, _ => False
  kept := false
theorem m_i_RotationsOf : Meets Tryz.prog 51 S_i_RotationsOf :=
  meets tok mixed Tryz.func51 (by kernel_rfl) (l := [(30, S_i_ListValid), (77, S_i_rotationBefore)]) ⟨m_i_ListValid, m_i_rotationBefore, trivial⟩ (ann := [(5, [.slot 3 (.own 3 .int), .slot 13 .int]), (8, [.slot 5 .int])]) v_i_RotationsOf (by kernel_rfl)
def S_s_l16Order : FSpec where
  args := [.sc (.sl .int)]
  outs := [.sc (.own 3 .int)]
  pre := fun a => match a with
    | [.sc (.sl .int list)] => LV list = true
    | _ => False
  post := fun a r => match a, r with
    | [.sc (.sl .int list)], [.sc (.sl .int r)] => r = rotsD list ∧ (((r).length : Nat) : Int) ≤ 40
    | _, _ => False
  kept := false
theorem m_s_l16Order : Meets Tryz.prog 90 S_s_l16Order :=
  meets tok mixed Tryz.func90 (by kernel_rfl) (l := [(111, S_s_l16Less)]) ⟨m_s_l16Less, trivial⟩ (ann := [(3, [.slot 3 (.own 3 .int), .slot 4 .int]), (6, [.slot 5 .int])]) v_s_l16Order (by kernel_rfl)
def S_i_TurnOf : FSpec where
  args := [.sc (.sl .int)]
  outs := [.sc (.own 3 .int), .sc .int, .sc .bool]
  pre := fun a => match a with
    | [.sc (.sl .int list)] => (((list).length : Nat) : Int) ≤ 1099511627776
    | _ => False
  post := fun a r => match a, r with
    | [.sc (.sl .int list)], [.sc (.sl .int r), .sc (.int _ at_), .sc (.bool ok)] => ok = LV list ∧ (LV list = true → (r, at_) = turnD list) ∧ (((r).length : Nat) : Int) ≤ 40
    | _, _ => False
  kept := false
theorem m_i_TurnOf : Meets Tryz.prog 37 S_i_TurnOf :=
  meets tok mixed Tryz.func37 (by kernel_rfl) (l := [(30, S_i_ListValid), (51, S_i_RotationsOf)]) ⟨m_i_ListValid, m_i_RotationsOf, trivial⟩ (ann := [(7, [.slot 5 (.own 3 .int), .slot 6 .int, .slot 20 .int])]) v_i_TurnOf (by kernel_rfl)
def S_s_TurnOf : FSpec where
  args := [.sc (.sl .int)]
  outs := [.sc (.own 3 .int), .sc .int, .sc .bool]
  pre := fun a => match a with
    | [.sc (.sl .int list)] => (((list).length : Nat) : Int) ≤ 1099511627776
    | _ => False
  post := fun a r => match a, r with
    | [.sc (.sl .int list)], [.sc (.sl .int r), .sc (.int _ at_), .sc (.bool ok)] => ok = LV list ∧ (LV list = true → (r, at_) = turnD list) ∧ (((r).length : Nat) : Int) ≤ 40
    | _, _ => False
  kept := false
theorem m_s_TurnOf : Meets Tryz.prog 64 S_s_TurnOf :=
  meets tok mixed Tryz.func64 (by kernel_rfl) (l := [(56, S_s_ListValid), (90, S_s_l16Order)]) ⟨m_s_ListValid, m_s_l16Order, trivial⟩ (ann := [(7, [.slot 5 (.own 3 .int), .slot 6 .int, .slot 8 .int])]) v_s_TurnOf (by kernel_rfl)
end Go.Proofs.YtfnmhnbadepooaaGreatDoor
