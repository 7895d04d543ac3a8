/-
  Functions meet their contracts: a_basic.
-/
import Derived.Test.YtfnmhnbadepooaaGreatDoorT
import Derived.Test.YtfnmhnbadepooaaGreatDoorVa
set_option linter.unusedVariables false
set_option linter.unusedSimpArgs false
open Go Go.Ax Go.Mx
namespace Go.Proofs.YtfnmhnbadepooaaGreatDoor
def S_i_within : FSpec where
  args := [.sc .int, .sc .int, .sc .int]
  outs := [.sc .bool]
  pre := fun a => match a with
    | [.sc (.int _ n), .sc (.int _ low), .sc (.int _ high)] => True
    | _ => False
  post := fun a r => match a, r with
    | [.sc (.int _ n), .sc (.int _ low), .sc (.int _ high)], [.sc (.bool r)] => r = decide (low ≤ n ∧ n ≤ high)
    | _, _ => False
  kept := false
theorem m_i_within : Meets Tryz.prog 72 S_i_within :=
  meets tok mixed Tryz.func72 (by kernel_rfl) (l := []) trivial (ann := []) v_i_within (by kernel_rfl)
def S_s_l6In : FSpec where
  args := [.sc .int, .sc .int, .sc .int]
  outs := [.sc .bool]
  pre := fun a => match a with
    | [.sc (.int _ n), .sc (.int _ low), .sc (.int _ high)] => True
    | _ => False
  post := fun a r => match a, r with
    | [.sc (.int _ n), .sc (.int _ low), .sc (.int _ high)], [.sc (.bool r)] => r = decide (low ≤ n ∧ n ≤ high)
    | _, _ => False
  kept := false
theorem m_s_l6In : Meets Tryz.prog 84 S_s_l6In :=
  meets tok mixed Tryz.func84 (by kernel_rfl) (l := []) trivial (ann := []) v_s_l6In (by kernel_rfl)
def S_i_every : FSpec where
  args := [.sc (.sl .int), .sc .int, .sc .int]
  outs := [.sc .bool]
  pre := fun a => match a with
    | [.sc (.sl .int list), .sc (.int _ low), .sc (.int _ high)] => (((list).length : Nat) : Int) ≤ 1099511627776
    | _ => False
  post := fun a r => match a, r with
    | [.sc (.sl .int list), .sc (.int _ low), .sc (.int _ high)], [.sc (.bool r)] => r = allIn low high list
    | _, _ => False
  kept := false
theorem m_i_every : Meets Tryz.prog 48 S_i_every :=
  meets tok mixed Tryz.func48 (by kernel_rfl) (l := [(72, S_i_within)]) ⟨m_i_within, trivial⟩ (ann := [(2, [.slot 11 .int])]) v_i_every (by kernel_rfl)
def S_i_ListValid : FSpec where
  args := [.sc (.sl .int)]
  outs := [.sc .bool]
  pre := fun a => match a with
    | [.sc (.sl .int list)] => (((list).length : Nat) : Int) ≤ 1099511627776
    | _ => False
  post := fun a r => match a, r with
    | [.sc (.sl .int list)], [.sc (.bool r)] => r = LV list
    | _, _ => False
  kept := false
theorem m_i_ListValid : Meets Tryz.prog 30 S_i_ListValid :=
  meets tok mixed Tryz.func30 (by kernel_rfl) (l := [(48, S_i_every)]) ⟨m_i_every, trivial⟩ (ann := []) v_i_ListValid (by kernel_rfl)
def S_s_ListValid : FSpec where
  args := [.sc (.sl .int)]
  outs := [.sc .bool]
  pre := fun a => match a with
    | [.sc (.sl .int list)] => (((list).length : Nat) : Int) ≤ 1099511627776
    | _ => False
  post := fun a r => match a, r with
    | [.sc (.sl .int list)], [.sc (.bool r)] => r = LV list
    | _, _ => False
  kept := false
theorem m_s_ListValid : Meets Tryz.prog 56 S_s_ListValid :=
  meets tok mixed Tryz.func56 (by kernel_rfl) (l := [(84, S_s_l6In)]) ⟨m_s_l6In, trivial⟩ (ann := [(2, [.slot 3 .int])]) v_s_ListValid (by kernel_rfl)
def S_i_cloned : FSpec where
  args := [.sc (.sl .int)]
  outs := [.sc (.own 3 .int)]
  pre := fun a => match a with
    | [.sc (.sl .int list)] => (((list).length : Nat) : Int) ≤ 1099511627776
    | _ => False
  post := fun a r => match a, r with
    | [.sc (.sl .int list)], [.sc (.sl .int r)] => r = list
    | _, _ => False
  kept := false
theorem m_i_cloned : Meets Tryz.prog 101 S_i_cloned :=
  meets tok mixed Tryz.func101 (by kernel_rfl) (l := []) trivial (ann := []) v_i_cloned (by kernel_rfl)
end Go.Proofs.YtfnmhnbadepooaaGreatDoor
