/-
  Functions meet their contracts: j_count.
-/
import Derived.Test.YtkkgpcbkkahieaaT
import Derived.Test.YtkkgpcbkkahieaaVj
import Derived.Test.YtkkgpcbkkahieaaSa
set_option linter.unusedVariables false
set_option linter.unusedSimpArgs false
open Go Go.Ax Go.Mx
namespace Go.Proofs.Ytkkgpcbkkahieaa
def S_i_RunsOf : FSpec where
  args := [.sc (.sl .int)]
  outs := [.sc (.own 71 .r2)]
  pre := fun a => match a with
    | [.sc (.sl .int list)] => (((list).length : Nat) : Int) ≤ 1099511627776
    | _ => False
  post := fun a r => match a, r with
    | [.sc (.sl .int list)], [.sc (.sl .r2 r)] => r = runsD list ∧ (((r).length : Nat) : Int) ≤ 40
    | _, _ => False
  kept := false
theorem m_i_RunsOf : Meets Try.prog 59 S_i_RunsOf :=
  meets tok mixed Try.func59 (by kernel_rfl) (l := [(49, S_i_ListValid)]) ⟨m_i_ListValid, trivial⟩ (ann := [(5, [.slot 3 (.own 71 .r2), .slot 13 .int])]) v_i_RunsOf (by kernel_rfl)
def S_s_l4Runs : FSpec where
  args := [.sc (.sl .int)]
  outs := [.sc (.own 71 .r2)]
  pre := fun a => match a with
    | [.sc (.sl .int list)] => LV list = true
    | _ => False
  post := fun a r => match a, r with
    | [.sc (.sl .int list)], [.sc (.sl .r2 r)] => r = runs list ∧ (((r).length : Nat) : Int) ≤ 40
    | _, _ => False
  kept := false
theorem m_s_l4Runs : Meets Try.prog 103 S_s_l4Runs :=
  meets tok mixed Try.func103 (by kernel_rfl) (l := []) trivial (ann := [(3, [.slot 3 (.own 71 .r2), .slot 4 .int])]) v_s_l4Runs (by kernel_rfl)
def S_i_countsOf : FSpec where
  args := [.sc (.sl .int)]
  outs := [.sc (.own 3 .int)]
  pre := fun a => match a with
    | [.sc (.sl .int list)] => LV list = true
    | _ => False
  post := fun a r => match a, r with
    | [.sc (.sl .int list)], [.sc (.sl .int r)] => r = countsL list
    | _, _ => False
  kept := false
theorem m_i_countsOf : Meets Try.prog 61 S_i_countsOf :=
  meets tok mixed Try.func61 (by kernel_rfl) (l := []) trivial (ann := [(3, [.slot 9 .int, .arr 3 3 .int])]) v_i_countsOf (by kernel_rfl)
def S_s_l3Counts : FSpec where
  args := [.sc (.sl .int)]
  outs := [.sc (.own 3 .int)]
  pre := fun a => match a with
    | [.sc (.sl .int list)] => LV list = true
    | _ => False
  post := fun a r => match a, r with
    | [.sc (.sl .int list)], [.sc (.sl .int r)] => r = countsL list
    | _, _ => False
  kept := false
theorem m_s_l3Counts : Meets Try.prog 105 S_s_l3Counts :=
  meets tok mixed Try.func105 (by kernel_rfl) (l := []) trivial (ann := [(3, [.slot 4 .int, .arr 3 3 .int])]) v_s_l3Counts (by kernel_rfl)
def S_i_CountsValid : FSpec where
  args := [.sc (.sl .int)]
  outs := [.sc .bool]
  pre := fun a => match a with
    | [.sc (.sl .int counts)] => (((counts).length : Nat) : Int) ≤ 1099511627776
    | _ => False
  post := fun a r => match a, r with
    | [.sc (.sl .int counts)], [.sc (.bool r)] => r = cntOk counts
    | _, _ => False
  kept := false
theorem m_i_CountsValid : Meets Try.prog 77 S_i_CountsValid :=
  meets tok mixed Try.func77 (by kernel_rfl) (l := [(52, S_i_every)]) ⟨m_i_every, trivial⟩ (ann := []) v_i_CountsValid (by kernel_rfl)
def S_s_CountsValid : FSpec where
  args := [.sc (.sl .int)]
  outs := [.sc .bool]
  pre := fun a => match a with
    | [.sc (.sl .int counts)] => (((counts).length : Nat) : Int) ≤ 1099511627776
    | _ => False
  post := fun a r => match a, r with
    | [.sc (.sl .int counts)], [.sc (.bool r)] => r = cntOk counts
    | _, _ => False
  kept := false
theorem m_s_CountsValid : Meets Try.prog 115 S_s_CountsValid :=
  meets tok mixed Try.func115 (by kernel_rfl) (l := [(45, S_s_l6In)]) ⟨m_s_l6In, trivial⟩ (ann := [(2, [.slot 3 .int])]) v_s_CountsValid (by kernel_rfl)
def S_i_total : FSpec where
  args := [.sc (.sl .int)]
  outs := [.sc .int]
  pre := fun a => match a with
    | [.sc (.sl .int list)] => (((list).length : Nat) : Int) ≤ 1000 ∧ allIn (-1000000) 1000000 list = true
    | _ => False
  post := fun a r => match a, r with
    | [.sc (.sl .int list)], [.sc (.int _ n)] => n = sumL list
    | _, _ => False
  kept := false
theorem m_i_total : Meets Try.prog 78 S_i_total :=
  meets tok mixed Try.func78 (by kernel_rfl) (l := []) trivial (ann := [(3, [.slot 3 .int, .slot 8 .int])]) v_i_total (by kernel_rfl)
def S_s_l3Sum : FSpec where
  args := [.sc (.sl .int)]
  outs := [.sc .int]
  pre := fun a => match a with
    | [.sc (.sl .int list)] => (((list).length : Nat) : Int) ≤ 1000 ∧ allIn (-1000000) 1000000 list = true
    | _ => False
  post := fun a r => match a, r with
    | [.sc (.sl .int list)], [.sc (.int _ n)] => n = sumL list
    | _, _ => False
  kept := false
theorem m_s_l3Sum : Meets Try.prog 116 S_s_l3Sum :=
  meets tok mixed Try.func116 (by kernel_rfl) (l := []) trivial (ann := [(3, [.slot 3 .int, .slot 4 .int])]) v_s_l3Sum (by kernel_rfl)
end Go.Proofs.Ytkkgpcbkkahieaa
