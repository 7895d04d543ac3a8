/-
  Functions meet their contracts: j_count.
-/
import Derived.Test.YtfnmhnbadepooaaGreatDoorT
import Derived.Test.YtfnmhnbadepooaaGreatDoorVj
import Derived.Test.YtfnmhnbadepooaaGreatDoorSa
set_option linter.unusedVariables false
set_option linter.unusedSimpArgs false
open Go Go.Ax Go.Mx
namespace Go.Proofs.YtfnmhnbadepooaaGreatDoor
def S_i_RunsOf : FSpec where
  args := [.sc (.sl .int)]
  outs := [.sc (.own 49 .r2)]
  pre := fun a => match a with
    | [.sc (.sl .int list)] => (((list).length : Nat) : Int) ≤ 1099511627776
    | _ => False
  post := fun a r => match a, r with
    | [.sc (.sl .int list)], [.sc (.sl .r2 r)] => r = runsD list ∧ (((r).length : Nat) : Int) ≤ 40
    | _, _ => False
  kept := false
theorem m_i_RunsOf : Meets Tryz.prog 34 S_i_RunsOf :=
  meets tok mixed Tryz.func34 (by kernel_rfl) (l := [(30, S_i_ListValid)]) ⟨m_i_ListValid, trivial⟩ (ann := [(5, [.slot 3 (.own 49 .r2), .slot 13 .int])]) v_i_RunsOf (by kernel_rfl)
def S_s_l4Runs : FSpec where
  args := [.sc (.sl .int)]
  outs := [.sc (.own 49 .r2)]
  pre := fun a => match a with
    | [.sc (.sl .int list)] => LV list = true
    | _ => False
  post := fun a r => match a, r with
    | [.sc (.sl .int list)], [.sc (.sl .r2 r)] => r = runs list ∧ (((r).length : Nat) : Int) ≤ 40
    | _, _ => False
  kept := false
theorem m_s_l4Runs : Meets Tryz.prog 86 S_s_l4Runs :=
  meets tok mixed Tryz.func86 (by kernel_rfl) (l := []) trivial (ann := [(3, [.slot 3 (.own 49 .r2), .slot 4 .int])]) v_s_l4Runs (by kernel_rfl)
def S_i_countsOf : FSpec where
  args := [.sc (.sl .int)]
  outs := [.sc (.own 3 .int)]
  pre := fun a => match a with
    | [.sc (.sl .int list)] => LV list = true
    | _ => False
  post := fun a r => match a, r with
    | [.sc (.sl .int list)], [.sc (.sl .int r)] => r = countsL list
    | _, _ => False
  kept := false
theorem m_i_countsOf : Meets Tryz.prog 74 S_i_countsOf :=
  meets tok mixed Tryz.func74 (by kernel_rfl) (l := []) trivial (ann := [(3, [.slot 9 .int, .arr 3 3 .int])]) v_i_countsOf (by kernel_rfl)
def S_s_l3Counts : FSpec where
  args := [.sc (.sl .int)]
  outs := [.sc (.own 3 .int)]
  pre := fun a => match a with
    | [.sc (.sl .int list)] => LV list = true
    | _ => False
  post := fun a r => match a, r with
    | [.sc (.sl .int list)], [.sc (.sl .int r)] => r = countsL list
    | _, _ => False
  kept := false
theorem m_s_l3Counts : Meets Tryz.prog 123 S_s_l3Counts :=
  meets tok mixed Tryz.func123 (by kernel_rfl) (l := []) trivial (ann := [(3, [.slot 4 .int, .arr 3 3 .int])]) v_s_l3Counts (by kernel_rfl)
def S_i_CountsValid : FSpec where
  args := [.sc (.sl .int)]
  outs := [.sc .bool]
  pre := fun a => match a with
    | [.sc (.sl .int counts)] => (((counts).length : Nat) : Int) ≤ 1099511627776
    | _ => False
  post := fun a r => match a, r with
    | [.sc (.sl .int counts)], [.sc (.bool r)] => r = cntOk counts
    | _, _ => False
  kept := false
theorem m_i_CountsValid : Meets Tryz.prog 98 S_i_CountsValid :=
  meets tok mixed Tryz.func98 (by kernel_rfl) (l := [(48, S_i_every)]) ⟨m_i_every, trivial⟩ (ann := []) v_i_CountsValid (by kernel_rfl)
def S_s_CountsValid : FSpec where
  args := [.sc (.sl .int)]
  outs := [.sc .bool]
  pre := fun a => match a with
    | [.sc (.sl .int counts)] => (((counts).length : Nat) : Int) ≤ 1099511627776
    | _ => False
  post := fun a r => match a, r with
    | [.sc (.sl .int counts)], [.sc (.bool r)] => r = cntOk counts
    | _, _ => False
  kept := false
theorem m_s_CountsValid : Meets Tryz.prog 127 S_s_CountsValid :=
  meets tok mixed Tryz.func127 (by kernel_rfl) (l := [(84, S_s_l6In)]) ⟨m_s_l6In, trivial⟩ (ann := [(2, [.slot 3 .int])]) v_s_CountsValid (by kernel_rfl)
def S_i_total : FSpec where
  args := [.sc (.sl .int)]
  outs := [.sc .int]
  pre := fun a => match a with
    | [.sc (.sl .int list)] => (((list).length : Nat) : Int) ≤ 1000 ∧ allIn (-1000000) 1000000 list = true
    | _ => False
  post := fun a r => match a, r with
    | [.sc (.sl .int list)], [.sc (.int _ n)] => n = sumL list
    | _, _ => False
  kept := false
theorem m_i_total : Meets Tryz.prog 99 S_i_total :=
  meets tok mixed Tryz.func99 (by kernel_rfl) (l := []) trivial (ann := [(3, [.slot 3 .int, .slot 8 .int])]) v_i_total (by kernel_rfl)
def S_s_l3Sum : FSpec where
  args := [.sc (.sl .int)]
  outs := [.sc .int]
  pre := fun a => match a with
    | [.sc (.sl .int list)] => (((list).length : Nat) : Int) ≤ 1000 ∧ allIn (-1000000) 1000000 list = true
    | _ => False
  post := fun a r => match a, r with
    | [.sc (.sl .int list)], [.sc (.int _ n)] => n = sumL list
    | _, _ => False
  kept := false
theorem m_s_l3Sum : Meets Tryz.prog 128 S_s_l3Sum :=
  meets tok mixed Tryz.func128 (by kernel_rfl) (l := []) trivial (ann := [(3, [.slot 3 .int, .slot 4 .int])]) v_s_l3Sum (by kernel_rfl)
end Go.Proofs.YtfnmhnbadepooaaGreatDoor
