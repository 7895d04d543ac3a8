/-
  Functions meet their contracts: v_front.
-/
import Derived.Test.YtfnmhnbadepooaaGreatDoorT
import Derived.Test.YtfnmhnbadepooaaGreatDoorVv
import Derived.Test.YtfnmhnbadepooaaGreatDoorSa
import Derived.Test.YtfnmhnbadepooaaGreatDoorSj
import Derived.Test.YtfnmhnbadepooaaGreatDoorSk
set_option linter.unusedVariables false
set_option linter.unusedSimpArgs false
open Go Go.Ax Go.Mx
namespace Go.Proofs.YtfnmhnbadepooaaGreatDoor
def S_i_moved : FSpec where
  args := [.sc (.sl .int), .sc .bool]
  outs := [.sc (.own 3 .int)]
  pre := fun a => match a with
    | [.sc (.sl .int list), .sc (.bool places)] => (((list).length : Nat) : Int) ≤ 1099511627776 ∧ places = false
    | _ => False
  post := fun a r => match a, r with
    | [.sc (.sl .int list), .sc (.bool places)], [.sc (.sl .int r)] => r = frontD list ∧ (((r).length : Nat) : Int) ≤ 40
    | _, _ => False
  kept := false
theorem m_i_moved : Meets Tryz.prog 50 S_i_moved :=
  meets tok mixed Tryz.func50 (by kernel_rfl) (l := [(30, S_i_ListValid)]) ⟨m_i_ListValid, trivial⟩ (ann := [(6, [.slot 5 (.own 3 .int), .slot 19 .int, .arr 6 3 .int]), (11, [.slot 9 .int])]) v_i_moved (by kernel_rfl)
def S_i_FrontOf : FSpec where
  args := [.sc (.sl .int)]
  outs := [.sc (.own 3 .int)]
  pre := fun a => match a with
    | [.sc (.sl .int list)] => (((list).length : Nat) : Int) ≤ 1099511627776
    | _ => False
  post := fun a r => match a, r with
    | [.sc (.sl .int list)], [.sc (.sl .int r)] => r = frontD list ∧ (((r).length : Nat) : Int) ≤ 40
    | _, _ => False
  kept := false
theorem m_i_FrontOf : Meets Tryz.prog 36 S_i_FrontOf :=
  meets tok mixed Tryz.func36 (by kernel_rfl) (l := [(50, S_i_moved)]) ⟨m_i_moved, trivial⟩ (ann := []) v_i_FrontOf (by kernel_rfl)
def S_s_l4Place : FSpec where
  args := [.sc (.sl .int), .sc .int]
  outs := [.sc .int]
  pre := fun a => match a with
    | [.sc (.sl .int order), .sc (.int _ symbol)] => full8 order ∧ 0 ≤ symbol ∧ symbol ≤ 7
    | _ => False
  post := fun a r => match a, r with
    | [.sc (.sl .int order), .sc (.int _ symbol)], [.sc (.int _ at_)] => at_ = (fpos8 symbol order : Int)
    | _, _ => False
  kept := false
theorem m_s_l4Place : Meets Tryz.prog 88 S_s_l4Place :=
  meets tok mixed Tryz.func88 (by kernel_rfl) (l := []) trivial (ann := [(2, [.slot 5 .int])]) v_s_l4Place (by kernel_rfl)
def S_s_l4Front : FSpec where
  args := [.sc (.sl .int), .sc .int]
  outs := [.sc (.own 3 .int)]
  pre := fun a => match a with
    | [.sc (.sl .int order), .sc (.int _ at_)] => full8 order ∧ 0 ≤ at_ ∧ at_ ≤ 7
    | _ => False
  post := fun a r => match a, r with
    | [.sc (.sl .int order), .sc (.int _ at_)], [.sc (.sl .int r)] => r = mvF order at_.toNat
    | _, _ => False
  kept := false
theorem m_s_l4Front : Meets Tryz.prog 89 S_s_l4Front :=
  meets tok mixed Tryz.func89 (by kernel_rfl) (l := []) trivial (ann := [(3, [.slot 5 (.own 3 .int), .slot 6 .int])]) v_s_l4Front (by kernel_rfl)
def S_s_FrontOf : FSpec where
  args := [.sc (.sl .int)]
  outs := [.sc (.own 3 .int)]
  pre := fun a => match a with
    | [.sc (.sl .int list)] => (((list).length : Nat) : Int) ≤ 1099511627776
    | _ => False
  post := fun a r => match a, r with
    | [.sc (.sl .int list)], [.sc (.sl .int r)] => r = frontD list ∧ (((r).length : Nat) : Int) ≤ 40
    | _, _ => False
  kept := false
theorem m_s_FrontOf : Meets Tryz.prog 63 S_s_FrontOf :=
  meets tok mixed Tryz.func63 (by kernel_rfl) (l := [(56, S_s_ListValid), (87, S_s_l4Order), (88, S_s_l4Place), (89, S_s_l4Front)]) ⟨m_s_ListValid, m_s_l4Order, m_s_l4Place, m_s_l4Front, trivial⟩ (ann := [(4, [.slot 3 (.own 3 .int), .slot 4 (.own 3 .int), .slot 5 .int])]) v_s_FrontOf (by kernel_rfl)
def S_s_RunsOf : FSpec where
  args := [.sc (.sl .int)]
  outs := [.sc (.own 49 .r2)]
  pre := fun a => match a with
    | [.sc (.sl .int list)] => (((list).length : Nat) : Int) ≤ 1099511627776
    | _ => False
  post := fun a r => match a, r with
    | [.sc (.sl .int list)], [.sc (.sl .r2 r)] => r = runsD list ∧ (((r).length : Nat) : Int) ≤ 40
    | _, _ => False
  kept := false
theorem m_s_RunsOf : Meets Tryz.prog 61 S_s_RunsOf :=
  meets tok mixed Tryz.func61 (by kernel_rfl) (l := [(56, S_s_ListValid), (86, S_s_l4Runs)]) ⟨m_s_ListValid, m_s_l4Runs, trivial⟩ (ann := []) v_s_RunsOf (by kernel_rfl)
end Go.Proofs.YtfnmhnbadepooaaGreatDoor
