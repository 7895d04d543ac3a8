/-
  Functions meet their contracts: g_tokens.
-/
import Derived.Test.YtfnmhnbadepooaaGreatDoorT
import Derived.Test.YtfnmhnbadepooaaGreatDoorVg
import Derived.Test.YtfnmhnbadepooaaGreatDoorSa
set_option linter.unusedVariables false
set_option linter.unusedSimpArgs false
open Go Go.Ax Go.Mx
namespace Go.Proofs.YtfnmhnbadepooaaGreatDoor
def S_i_matchLong : FSpec where
  args := [.sc (.sl .int), .sc .int, .sc .int]
  outs := [.sc .int]
  pre := fun a => match a with
    | [.sc (.sl .int list), .sc (.int _ at_), .sc (.int _ back)] => (((list).length : Nat) : Int) ≤ 1099511627776 ∧ 0 ≤ at_ ∧ at_ ≤ list.length ∧ 1 ≤ back ∧ back ≤ at_
    | _ => False
  post := fun a r => match a, r with
    | [.sc (.sl .int list), .sc (.int _ at_), .sc (.int _ back)], [.sc (.int _ n)] => n = mlong list at_ back
    | _, _ => False
  kept := false
theorem m_i_matchLong : Meets Tryz.prog 79 S_i_matchLong :=
  meets tok mixed Tryz.func79 (by kernel_rfl) (l := []) trivial (ann := [(2, [.slot 7 .int])]) v_i_matchLong (by kernel_rfl)
def S_s_l14Same : FSpec where
  args := [.sc (.sl .int), .sc .int, .sc .int]
  outs := [.sc .int]
  pre := fun a => match a with
    | [.sc (.sl .int list), .sc (.int _ at_), .sc (.int _ back)] => (((list).length : Nat) : Int) ≤ 1099511627776 ∧ 0 ≤ at_ ∧ at_ ≤ list.length ∧ 1 ≤ back ∧ back ≤ at_
    | _ => False
  post := fun a r => match a, r with
    | [.sc (.sl .int list), .sc (.int _ at_), .sc (.int _ back)], [.sc (.int _ n)] => n = mlong list at_ back
    | _, _ => False
  kept := false
theorem m_s_l14Same : Meets Tryz.prog 112 S_s_l14Same :=
  meets tok mixed Tryz.func112 (by kernel_rfl) (l := []) trivial (ann := [(2, [.slot 7 .int])]) v_s_l14Same (by kernel_rfl)
def S_i_MatchAt : FSpec where
  args := [.sc (.sl .int), .sc .int]
  outs := [.agg [.int, .int, .int], .sc .bool]
  pre := fun a => match a with
    | [.sc (.sl .int list), .sc (.int _ at_)] => (((list).length : Nat) : Int) ≤ 1099511627776
    | _ => False
  post := fun a r => match a, r with
    | [.sc (.sl .int list), .sc (.int _ at_)], [.agg [.int _ s, .int _ b, .int _ m], .sc (.bool ok)] => (s, b, m) = matchD list at_ ∧ ok = decide (0 < m)
    | _, _ => False
  kept := false
theorem m_i_MatchAt : Meets Tryz.prog 78 S_i_MatchAt :=
  meets tok mixed Tryz.func78 (by kernel_rfl) (l := [(30, S_i_ListValid), (72, S_i_within), (79, S_i_matchLong)]) ⟨m_i_ListValid, m_i_within, m_i_matchLong, trivial⟩ (ann := [(5, [.slot 7 .int, .box 6 [.int, .int, .int]])]) v_i_MatchAt (by kernel_rfl)
def S_s_l14Match : FSpec where
  args := [.sc (.sl .int), .sc .int]
  outs := [.agg [.int, .int, .int], .sc .bool]
  pre := fun a => match a with
    | [.sc (.sl .int list), .sc (.int _ at_)] => (((list).length : Nat) : Int) ≤ 1099511627776 ∧ 0 ≤ at_ ∧ at_ < list.length
    | _ => False
  post := fun a r => match a, r with
    | [.sc (.sl .int list), .sc (.int _ at_)], [.agg [.int _ s, .int _ b, .int _ m], .sc (.bool ok)] => (s, b, m) = matchAt list at_ ∧ ok = decide (0 < m)
    | _, _ => False
  kept := false
theorem m_s_l14Match : Meets Tryz.prog 91 S_s_l14Match :=
  meets tok mixed Tryz.func91 (by kernel_rfl) (l := [(112, S_s_l14Same)]) ⟨m_s_l14Same, trivial⟩ (ann := [(3, [.slot 7 .int, .box 6 [.int, .int, .int]])]) v_s_l14Match (by kernel_rfl)
def S_i_greedy : FSpec where
  args := [.sc (.sl .int), .sc .int]
  outs := [.sc (.own 64 .r3)]
  pre := fun a => match a with
    | [.sc (.sl .int list), .sc (.int _ at_)] => LV list = true ∧ 0 ≤ at_ ∧ at_ ≤ list.length
    | _ => False
  post := fun a r => match a, r with
    | [.sc (.sl .int list), .sc (.int _ at_)], [.sc (.sl .r3 r)] => r = greedy list at_ ∧ (((r).length : Nat) : Int) ≤ 40
    | _, _ => False
  kept := false
theorem m_i_greedy : Meets Tryz.prog 52 S_i_greedy :=
  meets tok mixed Tryz.func52 (by kernel_rfl) (l := [(78, S_i_MatchAt)]) ⟨m_i_MatchAt, trivial⟩ (ann := [(2, [.slot 1 .int, .slot 5 (.own 64 .r3)])]) v_i_greedy (by kernel_rfl)
def S_i_TokensGreedy : FSpec where
  args := [.sc (.sl .int)]
  outs := [.sc (.own 64 .r3)]
  pre := fun a => match a with
    | [.sc (.sl .int list)] => (((list).length : Nat) : Int) ≤ 1099511627776
    | _ => False
  post := fun a r => match a, r with
    | [.sc (.sl .int list)], [.sc (.sl .r3 r)] => r = greedyD list ∧ (((r).length : Nat) : Int) ≤ 40
    | _, _ => False
  kept := false
theorem m_i_TokensGreedy : Meets Tryz.prog 39 S_i_TokensGreedy :=
  meets tok mixed Tryz.func39 (by kernel_rfl) (l := [(30, S_i_ListValid), (52, S_i_greedy)]) ⟨m_i_ListValid, m_i_greedy, trivial⟩ (ann := []) v_i_TokensGreedy (by kernel_rfl)
def S_s_TokensGreedy : FSpec where
  args := [.sc (.sl .int)]
  outs := [.sc (.own 64 .r3)]
  pre := fun a => match a with
    | [.sc (.sl .int list)] => (((list).length : Nat) : Int) ≤ 1099511627776
    | _ => False
  post := fun a r => match a, r with
    | [.sc (.sl .int list)], [.sc (.sl .r3 r)] => r = greedyD list ∧ (((r).length : Nat) : Int) ≤ 40
    | _, _ => False
  kept := false
theorem m_s_TokensGreedy : Meets Tryz.prog 66 S_s_TokensGreedy :=
  meets tok mixed Tryz.func66 (by kernel_rfl) (l := [(56, S_s_ListValid), (91, S_s_l14Match)]) ⟨m_s_ListValid, m_s_l14Match, trivial⟩ (ann := [(3, [.slot 3 (.own 64 .r3), .slot 4 .int])]) v_s_TokensGreedy (by kernel_rfl)
end Go.Proofs.YtfnmhnbadepooaaGreatDoor
