/-
  Functions meet their contracts: b_draw.
-/
import Derived.Test.YtfnmhnbadepooaaGreatDoorT
import Derived.Test.YtfnmhnbadepooaaGreatDoorVb
set_option linter.unusedVariables false
set_option linter.unusedSimpArgs false
open Go Go.Ax Go.Mx
namespace Go.Proofs.YtfnmhnbadepooaaGreatDoor
def S_s_l6Open : FSpec where
  args := [.sc (.sl .u8)]
  outs := [.box [.sl .u8, .int]]
  pre := fun a => match a with
    | [.sc (.sl .u8 code)] => (((code).length : Nat) : Int) ≤ 1099511627776
    | _ => False
  post := fun a r => match a, r with
    | [.sc (.sl .u8 code)], [.agg [.sl .u8 b, .int _ p]] => p = 0 ∧ (((b).length : Nat) : Int) ≤ 2000
    | _, _ => False
  kept := true
theorem m_s_l6Open : Meets Tryz.prog 17 S_s_l6Open :=
  meets tok mixed Tryz.func17 (by kernel_rfl) (l := []) trivial (ann := []) v_s_l6Open (by kernel_rfl)
def S_s_pick : FSpec where
  args := [.box [.sl .u8, .int], .sc .int]
  outs := [.sc .int]
  pre := fun a => match a with
    | [.agg [.sl .u8 b, .int _ p], .sc (.int _ n)] => (((b).length : Nat) : Int) ≤ 1099511627776 ∧ 0 ≤ p ∧ p ≤ 1000000000
    | _ => False
  post := fun a r => match a, r with
    | [.agg [.sl .u8 b, .int _ p], .sc (.int _ n)], [.agg [.sl .u8 b', .int _ p'], .sc (.int _ x)] => b = b' ∧ p' = p + 1 ∧ 0 ≤ x ∧ (1 ≤ n → x < n)
    | _, _ => False
  kept := true
theorem m_s_pick : Meets Tryz.prog 18 S_s_pick :=
  meets tok mixed Tryz.func18 (by kernel_rfl) (l := []) trivial (ann := []) v_s_pick (by kernel_rfl)
def S_s_l91List : FSpec where
  args := [.box [.sl .u8, .int]]
  outs := [.sc (.own 3 .int)]
  pre := fun a => match a with
    | [.agg [.sl .u8 b, .int _ p]] => (((b).length : Nat) : Int) ≤ 1099511627776 ∧ 0 ≤ p ∧ p ≤ 900000000
    | _ => False
  post := fun a r => match a, r with
    | [.agg [.sl .u8 b, .int _ p]], [.agg [.sl .u8 b', .int _ p'], .sc (.sl .int out)] => b = b' ∧ p ≤ p' ∧ p' ≤ p + 10000 ∧ (((out).length : Nat) : Int) ≤ 400 ∧ allIn (-1) 8 out = true
    | _, _ => False
  kept := true
theorem m_s_l91List : Meets Tryz.prog 27 S_s_l91List :=
  meets tok mixed Tryz.func27 (by kernel_rfl) (l := [(18, S_s_pick)]) ⟨m_s_pick, trivial⟩ (ann := [(7, [.slot 3 (.own 3 .int), .slot 6 .int, .box 0 [.sl .u8, .int]]), (15, [.slot 3 (.own 3 .int), .slot 9 .int])]) v_s_l91List (by kernel_rfl)
end Go.Proofs.YtfnmhnbadepooaaGreatDoor
