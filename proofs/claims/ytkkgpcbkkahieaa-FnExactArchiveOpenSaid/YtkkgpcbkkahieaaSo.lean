/-
  Functions meet their contracts: o_parse.
-/
import Derived.Test.YtkkgpcbkkahieaaT
import Derived.Test.YtkkgpcbkkahieaaVo
import Derived.Test.YtkkgpcbkkahieaaSa
import Derived.Test.YtkkgpcbkkahieaaSg
set_option linter.unusedVariables false
set_option linter.unusedSimpArgs false
open Go Go.Ax Go.Mx
namespace Go.Proofs.Ytkkgpcbkkahieaa
def S_i_costsFrom : FSpec where
  args := [.sc (.sl .int)]
  outs := [.sc (.own 3 .int)]
  pre := fun a => match a with
    | [.sc (.sl .int list)] => LV list = true
    | _ => False
  post := fun a r => match a, r with
    | [.sc (.sl .int list)], [.sc (.sl .int r)] => r = costsN list list.length
    | _, _ => False
  kept := false
theorem m_i_costsFrom : Meets Try.prog 82 S_i_costsFrom :=
  meets tok mixed Try.func82 (by kernel_rfl) (l := [(94, S_i_matchLong)]) ⟨m_i_matchLong, trivial⟩ (ann := [(3, [.slot 4 .int, .arr 3 3 .int]), (7, [.slot 5 .int, .arr 3 3 .int]), (10, [.slot 6 .int, .arr 3 3 .int])]) v_i_costsFrom (by kernel_rfl)
def S_s_l15Table : FSpec where
  args := [.sc (.sl .int)]
  outs := [.sc (.own 3 .int), .sc (.own 76 .r3)]
  pre := fun a => match a with
    | [.sc (.sl .int list)] => LV list = true
    | _ => False
  post := fun a r => match a, r with
    | [.sc (.sl .int list)], [.sc (.sl .int r), .sc (.sl .r3 f)] => r = costsN list list.length ∧ f = toksN list list.length
    | _, _ => False
  kept := false
theorem m_s_l15Table : Meets Try.prog 121 S_s_l15Table :=
  meets tok mixed Try.func121 (by kernel_rfl) (l := [(122, S_s_l14Same)]) ⟨m_s_l14Same, trivial⟩ (ann := [(4, [.slot 6 .int, .arr 4 3 .int, .arr 5 76 .r3]), (9, [.slot 7 .int, .arr 4 3 .int, .arr 5 76 .r3]), (13, [.slot 9 .int, .arr 4 3 .int, .arr 5 76 .r3])]) v_s_l15Table (by kernel_rfl)
def S_i_bestAt : FSpec where
  args := [.sc (.sl .int), .sc .int, .sc (.sl .int)]
  outs := [.agg [.int, .int, .int]]
  pre := fun a => match a with
    | [.sc (.sl .int list), .sc (.int _ at_), .sc (.sl .int costs)] => LV list = true ∧ 0 ≤ at_ ∧ at_ < (((list).length : Nat) : Int) ∧ costs = costsN list list.length
    | _ => False
  post := fun a r => match a, r with
    | [.sc (.sl .int list), .sc (.int _ at_), .sc (.sl .int costs)], [.agg [.int _ s, .int _ b, .int _ m]] => (s, b, m) = takenAt list at_
    | _, _ => False
  kept := false
theorem m_i_bestAt : Meets Try.prog 83 S_i_bestAt :=
  meets tok mixed Try.func83 (by kernel_rfl) (l := [(94, S_i_matchLong)]) ⟨m_i_matchLong, trivial⟩ (ann := [(4, [.slot 7 .int, .box 6 [.int, .int, .int]]), (7, [.slot 8 .int, .box 6 [.int, .int, .int]])]) v_i_bestAt (by kernel_rfl)
def S_i_ParseBest : FSpec where
  args := [.sc (.sl .int)]
  outs := [.sc (.own 76 .r3)]
  pre := fun a => match a with
    | [.sc (.sl .int list)] => (((list).length : Nat) : Int) ≤ 1099511627776
    | _ => False
  post := fun a r => match a, r with
    | [.sc (.sl .int list)], [.sc (.sl .r3 r)] => r = parseD list ∧ (((r).length : Nat) : Int) ≤ 40
    | _, _ => False
  kept := false
theorem m_i_ParseBest : Meets Try.prog 64 S_i_ParseBest :=
  meets tok mixed Try.func64 (by kernel_rfl) (l := [(49, S_i_ListValid), (82, S_i_costsFrom), (83, S_i_bestAt)]) ⟨m_i_ListValid, m_i_costsFrom, m_i_bestAt, trivial⟩ (ann := [(6, [.slot 3 (.own 76 .r3), .slot 5 .int])]) v_i_ParseBest (by kernel_rfl)
def S_s_ParseBest : FSpec where
  args := [.sc (.sl .int)]
  outs := [.sc (.own 76 .r3)]
  pre := fun a => match a with
    | [.sc (.sl .int list)] => (((list).length : Nat) : Int) ≤ 1099511627776
    | _ => False
  post := fun a r => match a, r with
    | [.sc (.sl .int list)], [.sc (.sl .r3 r)] => r = parseD list ∧ (((r).length : Nat) : Int) ≤ 40
    | _, _ => False
  kept := false
theorem m_s_ParseBest : Meets Try.prog 108 S_s_ParseBest :=
  meets tok mixed Try.func108 (by kernel_rfl) (l := [(46, S_s_ListValid), (121, S_s_l15Table)]) ⟨m_s_ListValid, m_s_l15Table, trivial⟩ (ann := [(6, [.slot 3 (.own 76 .r3), .slot 6 .int])]) v_s_ParseBest (by kernel_rfl)
end Go.Proofs.Ytkkgpcbkkahieaa
