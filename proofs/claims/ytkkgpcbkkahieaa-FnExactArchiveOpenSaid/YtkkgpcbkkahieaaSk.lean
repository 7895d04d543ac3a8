/-
  Functions meet their contracts: k_huff.
-/
import Derived.Test.YtkkgpcbkkahieaaT
import Derived.Test.YtkkgpcbkkahieaaVk
import Derived.Test.YtkkgpcbkkahieaaSa
import Derived.Test.YtkkgpcbkkahieaaSj
set_option linter.unusedVariables false
set_option linter.unusedSimpArgs false
open Go Go.Ax Go.Mx
namespace Go.Proofs.Ytkkgpcbkkahieaa
def S_i_LengthsOf_1 : FSpec where
  args := [.box [.own 84 .ent]]
  outs := [.agg [.int, .sl .int]]
  pre := fun a => match a with
    | [.agg [.sl .ent g]] => 1 ≤ (((g).length : Nat) : Int) ∧ (((g).length : Nat) : Int) ≤ 100
    | _ => False
  post := fun a r => match a, r with
    | [.agg [.sl .ent g]], [.agg [.sl .ent g'], .agg [.int _ w, .sl .int l]] => (w, l) = hA g ∧ g' = hG g
    | _, _ => False
  kept := true
theorem m_i_LengthsOf_1 : Meets Try.prog 79 S_i_LengthsOf_1 :=
  meets tok mixed Try.func79 (by kernel_rfl) (l := []) trivial (ann := [(3, [.slot 2 .int, .slot 8 .int])]) v_i_LengthsOf_1 (by kernel_rfl)
def S_i_LengthsOf : FSpec where
  args := [.sc (.sl .int)]
  outs := [.sc (.own 3 .int), .sc .bool]
  pre := fun a => match a with
    | [.sc (.sl .int counts)] => (((counts).length : Nat) : Int) ≤ 1099511627776
    | _ => False
  post := fun a r => match a, r with
    | [.sc (.sl .int counts)], [.sc (.sl .int r), .sc (.bool ok)] => ok = (lengthsD counts).isSome ∧ r = (lengthsD counts).getD []
    | _, _ => False
  kept := false
theorem m_i_LengthsOf : Meets Try.prog 60 S_i_LengthsOf :=
  meets tok mixed Try.func60 (by kernel_rfl) (l := [(43, S_i_cloned), (77, S_i_CountsValid), (78, S_i_total), (79, S_i_LengthsOf_1)]) ⟨m_i_cloned, m_i_CountsValid, m_i_total, m_i_LengthsOf_1, trivial⟩ (ann := [(6, [.slot 27 .int, .box 5 [.own 84 .ent]]), (14, [.arr 4 3 .int, .box 5 [.own 84 .ent]]), (18, [.slot 76 .int, .arr 4 3 .int])]) v_i_LengthsOf (by kernel_rfl)
def S_s_l4Order : FSpec where
  args := []
  outs := [.sc (.own 3 .int)]
  pre := fun a => match a with
    | [] => True
    | _ => False
  post := fun a r => match a, r with
    | [], [.sc (.sl .int r)] => r = [0, 1, 2, 3, 4, 5, 6, 7]
    | _, _ => False
  kept := false
theorem m_s_l4Order : Meets Try.prog 117 S_s_l4Order :=
  meets tok mixed Try.func117 (by kernel_rfl) (l := []) trivial (ann := [(3, [.slot 1 (.own 3 .int), .slot 2 .int])]) v_s_l4Order (by kernel_rfl)
def S_s_l11Least : FSpec where
  args := [.sc (.sl .int)]
  outs := [.sc .int]
  pre := fun a => match a with
    | [.sc (.sl .int weights)] => (((weights).length : Nat) : Int) ≤ 1099511627776
    | _ => False
  post := fun a r => match a, r with
    | [.sc (.sl .int weights)], [.sc (.int _ n)] => n = leftAt weights
    | _, _ => False
  kept := false
theorem m_s_l11Least : Meets Try.prog 118 S_s_l11Least :=
  meets tok mixed Try.func118 (by kernel_rfl) (l := []) trivial (ann := [(3, [.slot 3 .int, .slot 4 .int])]) v_s_l11Least (by kernel_rfl)
def S_s_l11Join : FSpec where
  args := [.sc (.own 3 .int), .sc (.own 3 .int), .sc .int, .sc .int]
  outs := []
  pre := fun a => match a with
    | [.sc (.sl .int groups), .sc (.sl .int lengths), .sc (.int _ from_), .sc (.int _ to)] => (((groups).length : Nat) : Int) ≤ 8 ∧ (((groups).length : Nat) : Int) ≤ (((lengths).length : Nat) : Int) ∧ (((lengths).length : Nat) : Int) ≤ 8 ∧ allIn 0 1000 lengths = true
    | _ => False
  post := fun a r => match a, r with
    | [.sc (.sl .int groups), .sc (.sl .int lengths), .sc (.int _ from_), .sc (.int _ to)], [.sc (.sl .int groups'), .sc (.sl .int lengths')] => groups' = joinG groups from_ to ∧ lengths' = joinL groups lengths from_
    | _, _ => False
  kept := false
theorem m_s_l11Join : Meets Try.prog 120 S_s_l11Join :=
  meets tok mixed Try.func120 (by kernel_rfl) (l := []) trivial (ann := [(1, [.slot 8 .int, .arr 0 3 .int, .arr 1 3 .int])]) v_s_l11Join (by kernel_rfl)
def S_s_l11Used : FSpec where
  args := [.sc (.sl .int), .sc (.sl .int)]
  outs := [.sc (.own 3 .int)]
  pre := fun a => match a with
    | [.sc (.sl .int counts), .sc (.sl .int lengths)] => (((counts).length : Nat) : Int) ≤ 8 ∧ (((counts).length : Nat) : Int) ≤ (((lengths).length : Nat) : Int) ∧ (((lengths).length : Nat) : Int) ≤ 8
    | _ => False
  post := fun a r => match a, r with
    | [.sc (.sl .int counts), .sc (.sl .int lengths)], [.sc (.sl .int r)] => r = usedL counts lengths
    | _, _ => False
  kept := false
theorem m_s_l11Used : Meets Try.prog 119 S_s_l11Used :=
  meets tok mixed Try.func119 (by kernel_rfl) (l := []) trivial (ann := [(3, [.slot 6 .int, .arr 5 3 .int])]) v_s_l11Used (by kernel_rfl)
def S_s_LengthsOf : FSpec where
  args := [.sc (.sl .int)]
  outs := [.sc (.own 3 .int), .sc .bool]
  pre := fun a => match a with
    | [.sc (.sl .int counts)] => (((counts).length : Nat) : Int) ≤ 1099511627776
    | _ => False
  post := fun a r => match a, r with
    | [.sc (.sl .int counts)], [.sc (.sl .int r), .sc (.bool ok)] => ok = (lengthsD counts).isSome ∧ r = (lengthsD counts).getD []
    | _, _ => False
  kept := false
theorem m_s_LengthsOf : Meets Try.prog 104 S_s_LengthsOf :=
  meets tok mixed Try.func104 (by kernel_rfl) (l := [(115, S_s_CountsValid), (116, S_s_l3Sum), (117, S_s_l4Order), (118, S_s_l11Least), (119, S_s_l11Used), (120, S_s_l11Join)]) ⟨m_s_CountsValid, m_s_l3Sum, m_s_l4Order, m_s_l11Least, m_s_l11Used, m_s_l11Join, trivial⟩ (ann := [(10, [.slot 4 (.own 3 .int), .arr 5 3 .int, .arr 6 3 .int])]) v_s_LengthsOf (by kernel_rfl)
end Go.Proofs.Ytkkgpcbkkahieaa
