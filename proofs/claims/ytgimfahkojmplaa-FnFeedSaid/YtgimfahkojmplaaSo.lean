/-
  Functions meet their contracts: o_parse.
-/
import Derived.Test.YtgimfahkojmplaaT
import Derived.Test.YtgimfahkojmplaaVo
import Derived.Test.YtgimfahkojmplaaSa
import Derived.Test.YtgimfahkojmplaaSg
set_option linter.unusedVariables false
set_option linter.unusedSimpArgs false
open Go Go.Ax Go.Mx
namespace Go.Proofs.Ytgimfahkojmplaa
def S_i_costsFrom : FSpec where
  args := [.sc (.sl .int)]
  outs := [.sc (.own 3 .int)]
  pre := fun a => match a with
    | [.sc (.sl .int list)] => LV list = true
    | _ => False
  post := fun a r => match a, r with
    | [.sc (.sl .int list)], [.sc (.sl .int r)] => r = costsN list list.length
    | _, _ => False
  kept := false
theorem m_i_costsFrom : Meets Try.prog 90 S_i_costsFrom :=
  meets tok mixed Try.func90 (by kernel_rfl) (l := [(102, S_i_matchLong)]) ⟨m_i_matchLong, trivial⟩ (ann := [(3, [.slot 4 .int, .arr 3 3 .int]), (7, [.slot 5 .int, .arr 3 3 .int]), (10, [.slot 6 .int, .arr 3 3 .int])]) v_i_costsFrom (by kernel_rfl)
def S_s_l15Table : FSpec where
  args := [.sc (.sl .int)]
  outs := [.sc (.own 3 .int), .sc (.own 71 .r3)]
  pre := fun a => match a with
    | [.sc (.sl .int list)] => LV list = true
    | _ => False
  post := fun a r => match a, r with
    | [.sc (.sl .int list)], [.sc (.sl .int r), .sc (.sl .r3 f)] => r = costsN list list.length ∧ f = toksN list list.length
    | _, _ => False
  kept := false
theorem m_s_l15Table : Meets Try.prog 124 S_s_l15Table :=
  meets tok mixed Try.func124 (by kernel_rfl) (l := [(125, S_s_l14Same)]) ⟨m_s_l14Same, trivial⟩ (ann := [(4, [.slot 6 .int, .arr 4 3 .int, .arr 5 71 .r3]), (9, [.slot 7 .int, .arr 4 3 .int, .arr 5 71 .r3]), (13, [.slot 9 .int, .arr 4 3 .int, .arr 5 71 .r3])]) v_s_l15Table (by kernel_rfl)
def S_i_bestAt : FSpec where
  args := [.sc (.sl .int), .sc .int, .sc (.sl .int)]
  outs := [.agg [.int, .int, .int]]
  pre := fun a => match a with
    | [.sc (.sl .int list), .sc (.int _ at_), .sc (.sl .int costs)] => LV list = true ∧ 0 ≤ at_ ∧ at_ < (((list).length : Nat) : Int) ∧ costs = costsN list list.length
    | _ => False
  post := fun a r => match a, r with
    | [.sc (.sl .int list), .sc (.int _ at_), .sc (.sl .int costs)], [.agg [.int _ s, .int _ b, .int _ m]] => (s, b, m) = takenAt list at_
    | _, _ => False
  kept := false
theorem m_i_bestAt : Meets Try.prog 91 S_i_bestAt :=
  meets tok mixed Try.func91 (by kernel_rfl) (l := [(102, S_i_matchLong)]) ⟨m_i_matchLong, trivial⟩ (ann := [(4, [.slot 7 .int, .box 6 [.int, .int, .int]]), (7, [.slot 8 .int, .box 6 [.int, .int, .int]])]) v_i_bestAt (by kernel_rfl)
def S_i_ParseBest : FSpec where
  args := [.sc (.sl .int)]
  outs := [.sc (.own 71 .r3)]
  pre := fun a => match a with
    | [.sc (.sl .int list)] => (((list).length : Nat) : Int) ≤ 1099511627776
    | _ => False
  post := fun a r => match a, r with
    | [.sc (.sl .int list)], [.sc (.sl .r3 r)] => r = parseD list ∧ (((r).length : Nat) : Int) ≤ 40
    | _, _ => False
  kept := false
theorem m_i_ParseBest : Meets Try.prog 73 S_i_ParseBest :=
  meets tok mixed Try.func73 (by kernel_rfl) (l := [(67, S_i_ListValid), (90, S_i_costsFrom), (91, S_i_bestAt)]) ⟨m_i_ListValid, m_i_costsFrom, m_i_bestAt, trivial⟩ (ann := [(6, [.slot 3 (.own 71 .r3), .slot 5 .int])]) v_i_ParseBest (by kernel_rfl)
def S_s_ParseBest : FSpec where
  args := [.sc (.sl .int)]
  outs := [.sc (.own 71 .r3)]
  pre := fun a => match a with
    | [.sc (.sl .int list)] => (((list).length : Nat) : Int) ≤ 1099511627776
    | _ => False
  post := fun a r => match a, r with
    | [.sc (.sl .int list)], [.sc (.sl .r3 r)] => r = parseD list ∧ (((r).length : Nat) : Int) ≤ 40
    | _, _ => False
  kept := false
theorem m_s_ParseBest : Meets Try.prog 117 S_s_ParseBest :=
  meets tok mixed Try.func117 (by kernel_rfl) (l := [(96, S_s_ListValid), (124, S_s_l15Table)]) ⟨m_s_ListValid, m_s_l15Table, trivial⟩ (ann := [(6, [.slot 3 (.own 71 .r3), .slot 6 .int])]) v_s_ParseBest (by kernel_rfl)
end Go.Proofs.Ytgimfahkojmplaa
