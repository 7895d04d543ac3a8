/-
  Functions meet their contracts: d_delta.
-/
import Derived.Test.YthongcikinnjlaaT
import Derived.Test.YthongcikinnjlaaVd
import Derived.Test.YthongcikinnjlaaSa
set_option linter.unusedVariables false
set_option linter.unusedSimpArgs false
open Go Go.Ax Go.Mx
namespace Go.Proofs.Ythongcikinnjlaa
def S_s_l41Same : FSpec where
  args := [.sc (.sl .int), .sc .int, .sc (.sl .int), .sc .int]
  outs := [.sc .int]
  pre := fun a => match a with
    | [.sc (.sl .int old), .sc (.int _ from_), .sc (.sl .int list), .sc (.int _ at_)] => (((old).length : Nat) : Int) ≤ 1099511627776 ∧ (((list).length : Nat) : Int) ≤ 1099511627776 ∧ 0 ≤ from_ ∧ from_ ≤ old.length ∧ 0 ≤ at_ ∧ at_ ≤ list.length
    | _ => False
  post := fun a r => match a, r with
    | [.sc (.sl .int old), .sc (.int _ from_), .sc (.sl .int list), .sc (.int _ at_)], [.sc (.int _ n)] => n = cp (old.drop from_.toNat) (list.drop at_.toNat)
    | _, _ => False
  kept := false
theorem m_s_l41Same : Meets Try.prog 103 S_s_l41Same :=
  meets tok mixed Try.func103 (by kernel_rfl) (l := []) trivial (ann := [(2, [.slot 9 .int])]) v_s_l41Same (by kernel_rfl)
def S_s_l41Best : FSpec where
  args := [.sc (.sl .int), .sc (.sl .int), .sc .int]
  outs := [.agg [.int, .int, .int]]
  pre := fun a => match a with
    | [.sc (.sl .int old), .sc (.sl .int list), .sc (.int _ at_)] => (((old).length : Nat) : Int) ≤ 1099511627776 ∧ (((list).length : Nat) : Int) ≤ 1099511627776 ∧ 0 ≤ at_ ∧ at_ ≤ list.length
    | _ => False
  post := fun a r => match a, r with
    | [.sc (.sl .int old), .sc (.sl .int list), .sc (.int _ at_)], [.agg [.int _ s, .int _ f, .int _ m]] => (s, f, m) = bestFrom (list.drop at_.toNat) old 0 (0, 0, 0)
    | _, _ => False
  kept := false
theorem m_s_l41Best : Meets Try.prog 81 S_s_l41Best :=
  meets tok mixed Try.func81 (by kernel_rfl) (l := [(103, S_s_l41Same)]) ⟨m_s_l41Same, trivial⟩ (ann := [(3, [.slot 8 .int, .box 7 [.int, .int, .int]])]) v_s_l41Best (by kernel_rfl)
def S_s_DeltaOf : FSpec where
  args := [.sc (.sl .int), .sc (.sl .int)]
  outs := [.sc (.own 49 .r3)]
  pre := fun a => match a with
    | [.sc (.sl .int old), .sc (.sl .int list)] => (((old).length : Nat) : Int) ≤ 1099511627776 ∧ (((list).length : Nat) : Int) ≤ 1099511627776
    | _ => False
  post := fun a r => match a, r with
    | [.sc (.sl .int old), .sc (.sl .int list)], [.sc (.sl .r3 r)] => r = deltaD old list ∧ (((r).length : Nat) : Int) ≤ 40
    | _, _ => False
  kept := false
theorem m_s_DeltaOf : Meets Try.prog 39 S_s_DeltaOf :=
  meets tok mixed Try.func39 (by kernel_rfl) (l := [(46, S_s_ListValid), (81, S_s_l41Best)]) ⟨m_s_ListValid, m_s_l41Best, trivial⟩ (ann := [(3, [.slot 5 (.own 49 .r3), .slot 6 .int])]) v_s_DeltaOf (by kernel_rfl)
def S_i_DeltaOf : FSpec where
  args := [.sc (.sl .int), .sc (.sl .int)]
  outs := [.sc (.own 49 .r3)]
  pre := fun a => match a with
    | [.sc (.sl .int old), .sc (.sl .int list)] => (((old).length : Nat) : Int) ≤ 1099511627776 ∧ (((list).length : Nat) : Int) ≤ 1099511627776
    | _ => False
  post := fun a r => match a, r with
    | [.sc (.sl .int old), .sc (.sl .int list)], [.sc (.sl .r3 r)] => r = deltaD old list ∧ (((r).length : Nat) : Int) ≤ 40
    | _, _ => False
  kept := false
theorem m_i_DeltaOf : Meets Try.prog 40 S_i_DeltaOf :=
  meets tok mixed Try.func40 (by kernel_rfl) (l := [(65, S_i_ListValid)]) ⟨m_i_ListValid, trivial⟩ (ann := [(5, [.slot 5 (.own 49 .r3), .slot 6 .int]), (8, [.slot 31 .int, .box 7 [.int, .int, .int]]), (11, [.slot 9 .int])]) v_i_DeltaOf (by kernel_rfl)
end Go.Proofs.Ythongcikinnjlaa
