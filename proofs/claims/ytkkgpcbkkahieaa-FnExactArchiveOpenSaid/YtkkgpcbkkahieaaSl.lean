/-
  Functions meet their contracts: l_codes.
-/
import Derived.Test.YtkkgpcbkkahieaaT
import Derived.Test.YtkkgpcbkkahieaaVl
import Derived.Test.YtkkgpcbkkahieaaSa
set_option linter.unusedVariables false
set_option linter.unusedSimpArgs false
open Go Go.Ax Go.Mx
namespace Go.Proofs.Ytkkgpcbkkahieaa
def S_i_lengthsIn : FSpec where
  args := [.sc (.sl .int)]
  outs := [.sc .bool]
  pre := fun a => match a with
    | [.sc (.sl .int lengths)] => (((lengths).length : Nat) : Int) ≤ 1099511627776
    | _ => False
  post := fun a r => match a, r with
    | [.sc (.sl .int lengths)], [.sc (.bool r)] => r = lensIn lengths
    | _, _ => False
  kept := false
theorem m_i_lengthsIn : Meets Try.prog 114 S_i_lengthsIn :=
  meets tok mixed Try.func114 (by kernel_rfl) (l := [(52, S_i_every)]) ⟨m_i_every, trivial⟩ (ann := []) v_i_lengthsIn (by kernel_rfl)
def S_i_LengthsKraft : FSpec where
  args := [.sc (.sl .int)]
  outs := [.sc .int]
  pre := fun a => match a with
    | [.sc (.sl .int lengths)] => (((lengths).length : Nat) : Int) ≤ 1099511627776
    | _ => False
  post := fun a r => match a, r with
    | [.sc (.sl .int lengths)], [.sc (.int _ n)] => n = kraftD lengths
    | _, _ => False
  kept := false
theorem m_i_LengthsKraft : Meets Try.prog 102 S_i_LengthsKraft :=
  meets tok mixed Try.func102 (by kernel_rfl) (l := [(114, S_i_lengthsIn)]) ⟨m_i_lengthsIn, trivial⟩ (ann := [(5, [.slot 3 .int, .slot 11 .int])]) v_i_LengthsKraft (by kernel_rfl)
def S_s_l1Power : FSpec where
  args := [.sc .int]
  outs := [.sc .int]
  pre := fun a => match a with
    | [.sc (.int _ n)] => 0 ≤ n ∧ n ≤ 40
    | _ => False
  post := fun a r => match a, r with
    | [.sc (.int _ n)], [.sc (.int _ r)] => r = p2 n
    | _, _ => False
  kept := false
theorem m_s_l1Power : Meets Try.prog 112 S_s_l1Power :=
  meets tok mixed Try.func112 (by kernel_rfl) (l := []) trivial (ann := [(3, [.slot 3 .int, .slot 4 .int])]) v_s_l1Power (by kernel_rfl)
def S_s_LengthsKraft : FSpec where
  args := [.sc (.sl .int)]
  outs := [.sc .int]
  pre := fun a => match a with
    | [.sc (.sl .int lengths)] => (((lengths).length : Nat) : Int) ≤ 1099511627776
    | _ => False
  post := fun a r => match a, r with
    | [.sc (.sl .int lengths)], [.sc (.int _ n)] => n = kraftD lengths
    | _, _ => False
  kept := false
theorem m_s_LengthsKraft : Meets Try.prog 111 S_s_LengthsKraft :=
  meets tok mixed Try.func111 (by kernel_rfl) (l := [(45, S_s_l6In), (112, S_s_l1Power)]) ⟨m_s_l6In, m_s_l1Power, trivial⟩ (ann := [(5, [.slot 3 .int, .slot 4 .int])]) v_s_LengthsKraft (by kernel_rfl)
def S_i_LengthsValid : FSpec where
  args := [.sc (.sl .int)]
  outs := [.sc .bool]
  pre := fun a => match a with
    | [.sc (.sl .int lengths)] => (((lengths).length : Nat) : Int) ≤ 1099511627776
    | _ => False
  post := fun a r => match a, r with
    | [.sc (.sl .int lengths)], [.sc (.bool r)] => r = lensOk lengths
    | _, _ => False
  kept := false
theorem m_i_LengthsValid : Meets Try.prog 89 S_i_LengthsValid :=
  meets tok mixed Try.func89 (by kernel_rfl) (l := [(102, S_i_LengthsKraft)]) ⟨m_i_LengthsKraft, trivial⟩ (ann := []) v_i_LengthsValid (by kernel_rfl)
def S_s_LengthsValid : FSpec where
  args := [.sc (.sl .int)]
  outs := [.sc .bool]
  pre := fun a => match a with
    | [.sc (.sl .int lengths)] => (((lengths).length : Nat) : Int) ≤ 1099511627776
    | _ => False
  post := fun a r => match a, r with
    | [.sc (.sl .int lengths)], [.sc (.bool r)] => r = lensOk lengths
    | _, _ => False
  kept := false
theorem m_s_LengthsValid : Meets Try.prog 99 S_s_LengthsValid :=
  meets tok mixed Try.func99 (by kernel_rfl) (l := [(45, S_s_l6In), (111, S_s_LengthsKraft), (112, S_s_l1Power)]) ⟨m_s_l6In, m_s_LengthsKraft, m_s_l1Power, trivial⟩ (ann := []) v_s_LengthsValid (by kernel_rfl)
def S_i_CodesOf : FSpec where
  args := [.sc (.sl .int)]
  outs := [.sc (.own 3 .int)]
  pre := fun a => match a with
    | [.sc (.sl .int lengths)] => (((lengths).length : Nat) : Int) ≤ 1099511627776
    | _ => False
  post := fun a r => match a, r with
    | [.sc (.sl .int lengths)], [.sc (.sl .int r)] => r = codesD lengths ∧ (((r).length : Nat) : Int) ≤ 8
    | _, _ => False
  kept := false
theorem m_i_CodesOf : Meets Try.prog 74 S_i_CodesOf :=
  meets tok mixed Try.func74 (by kernel_rfl) (l := [(89, S_i_LengthsValid)]) ⟨m_i_LengthsValid, trivial⟩ (ann := [(6, [.slot 16 .int, .arr 3 3 .int]), (11, [.slot 4 .int, .slot 5 .int, .slot 7 .int, .arr 3 3 .int]), (14, [.slot 4 .int, .slot 5 .int, .slot 29 .int, .arr 3 3 .int])]) v_i_CodesOf (by kernel_rfl)
def S_s_CodesOf : FSpec where
  args := [.sc (.sl .int)]
  outs := [.sc (.own 3 .int)]
  pre := fun a => match a with
    | [.sc (.sl .int lengths)] => (((lengths).length : Nat) : Int) ≤ 1099511627776
    | _ => False
  post := fun a r => match a, r with
    | [.sc (.sl .int lengths)], [.sc (.sl .int r)] => r = codesD lengths ∧ (((r).length : Nat) : Int) ≤ 8
    | _, _ => False
  kept := false
theorem m_s_CodesOf : Meets Try.prog 100 S_s_CodesOf :=
  meets tok mixed Try.func100 (by kernel_rfl) (l := [(99, S_s_LengthsValid)]) ⟨m_s_LengthsValid, trivial⟩ (ann := [(3, [.slot 3 (.own 3 .int), .slot 4 .int]), (8, [.slot 5 .int, .slot 6 .int, .arr 3 3 .int]), (12, [.slot 5 .int, .slot 7 .int, .arr 3 3 .int])]) v_s_CodesOf (by kernel_rfl)
end Go.Proofs.Ytkkgpcbkkahieaa
