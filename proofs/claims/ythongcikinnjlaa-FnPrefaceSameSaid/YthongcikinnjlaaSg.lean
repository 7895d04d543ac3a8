/-
  Functions meet their contracts: g_tokens.
-/
import Derived.Test.YthongcikinnjlaaT
import Derived.Test.YthongcikinnjlaaVg
import Derived.Test.YthongcikinnjlaaSa
set_option linter.unusedVariables false
set_option linter.unusedSimpArgs false
open Go Go.Ax Go.Mx
namespace Go.Proofs.Ythongcikinnjlaa
def S_i_matchLong : FSpec where
  args := [.sc (.sl .int), .sc .int, .sc .int]
  outs := [.sc .int]
  pre := fun a => match a with
    | [.sc (.sl .int list), .sc (.int _ at_), .sc (.int _ back)] => (((list).length : Nat) : Int) ≤ 1099511627776 ∧ 0 ≤ at_ ∧ at_ ≤ list.length ∧ 1 ≤ back ∧ back ≤ at_
    | _ => False
  post := fun a r => match a, r with
    | [.sc (.sl .int list), .sc (.int _ at_), .sc (.int _ back)], [.sc (.int _ n)] => n = mlong list at_ back
    | _, _ => False
  kept := false
theorem m_i_matchLong : Meets Try.prog 107 S_i_matchLong :=
  meets tok mixed Try.func107 (by kernel_rfl) (l := []) trivial (ann := [(2, [.slot 7 .int])]) v_i_matchLong (by kernel_rfl)
def S_s_l14Same : FSpec where
  args := [.sc (.sl .int), .sc .int, .sc .int]
  outs := [.sc .int]
  pre := fun a => match a with
    | [.sc (.sl .int list), .sc (.int _ at_), .sc (.int _ back)] => (((list).length : Nat) : Int) ≤ 1099511627776 ∧ 0 ≤ at_ ∧ at_ ≤ list.length ∧ 1 ≤ back ∧ back ≤ at_
    | _ => False
  post := fun a r => match a, r with
    | [.sc (.sl .int list), .sc (.int _ at_), .sc (.int _ back)], [.sc (.int _ n)] => n = mlong list at_ back
    | _, _ => False
  kept := false
theorem m_s_l14Same : Meets Try.prog 104 S_s_l14Same :=
  meets tok mixed Try.func104 (by kernel_rfl) (l := []) trivial (ann := [(2, [.slot 7 .int])]) v_s_l14Same (by kernel_rfl)
def S_i_MatchAt : FSpec where
  args := [.sc (.sl .int), .sc .int]
  outs := [.agg [.int, .int, .int], .sc .bool]
  pre := fun a => match a with
    | [.sc (.sl .int list), .sc (.int _ at_)] => (((list).length : Nat) : Int) ≤ 1099511627776
    | _ => False
  post := fun a r => match a, r with
    | [.sc (.sl .int list), .sc (.int _ at_)], [.agg [.int _ s, .int _ b, .int _ m], .sc (.bool ok)] => (s, b, m) = matchD list at_ ∧ ok = decide (0 < m)
    | _, _ => False
  kept := false
theorem m_i_MatchAt : Meets Try.prog 105 S_i_MatchAt :=
  meets tok mixed Try.func105 (by kernel_rfl) (l := [(65, S_i_ListValid), (74, S_i_within), (107, S_i_matchLong)]) ⟨m_i_ListValid, m_i_within, m_i_matchLong, trivial⟩ (ann := [(5, [.slot 7 .int, .box 6 [.int, .int, .int]])]) v_i_MatchAt (by kernel_rfl)
def S_s_l14Match : FSpec where
  args := [.sc (.sl .int), .sc .int]
  outs := [.agg [.int, .int, .int], .sc .bool]
  pre := fun a => match a with
    | [.sc (.sl .int list), .sc (.int _ at_)] => (((list).length : Nat) : Int) ≤ 1099511627776 ∧ 0 ≤ at_ ∧ at_ < list.length
    | _ => False
  post := fun a r => match a, r with
    | [.sc (.sl .int list), .sc (.int _ at_)], [.agg [.int _ s, .int _ b, .int _ m], .sc (.bool ok)] => (s, b, m) = matchAt list at_ ∧ ok = decide (0 < m)
    | _, _ => False
  kept := false
theorem m_s_l14Match : Meets Try.prog 89 S_s_l14Match :=
  meets tok mixed Try.func89 (by kernel_rfl) (l := [(104, S_s_l14Same)]) ⟨m_s_l14Same, trivial⟩ (ann := [(3, [.slot 7 .int, .box 6 [.int, .int, .int]])]) v_s_l14Match (by kernel_rfl)
def S_i_greedy : FSpec where
  args := [.sc (.sl .int), .sc .int]
  outs := [.sc (.own 64 .r3)]
  pre := fun a => match a with
    | [.sc (.sl .int list), .sc (.int _ at_)] => LV list = true ∧ 0 ≤ at_ ∧ at_ ≤ list.length
    | _ => False
  post := fun a r => match a, r with
    | [.sc (.sl .int list), .sc (.int _ at_)], [.sc (.sl .r3 r)] => r = greedy list at_ ∧ (((r).length : Nat) : Int) ≤ 40
    | _, _ => False
  kept := false
theorem m_i_greedy : Meets Try.prog 90 S_i_greedy :=
  meets tok mixed Try.func90 (by kernel_rfl) (l := [(105, S_i_MatchAt)]) ⟨m_i_MatchAt, trivial⟩ (ann := [(2, [.slot 1 .int, .slot 5 (.own 64 .r3)])]) v_i_greedy (by kernel_rfl)
def S_i_TokensGreedy : FSpec where
  args := [.sc (.sl .int)]
  outs := [.sc (.own 64 .r3)]
  pre := fun a => match a with
    | [.sc (.sl .int list)] => (((list).length : Nat) : Int) ≤ 1099511627776
    | _ => False
  post := fun a r => match a, r with
    | [.sc (.sl .int list)], [.sc (.sl .r3 r)] => r = greedyD list ∧ (((r).length : Nat) : Int) ≤ 40
    | _, _ => False
  kept := false
theorem m_i_TokensGreedy : Meets Try.prog 67 S_i_TokensGreedy :=
  meets tok mixed Try.func67 (by kernel_rfl) (l := [(65, S_i_ListValid), (90, S_i_greedy)]) ⟨m_i_ListValid, m_i_greedy, trivial⟩ (ann := []) v_i_TokensGreedy (by kernel_rfl)
def S_s_TokensGreedy : FSpec where
  args := [.sc (.sl .int)]
  outs := [.sc (.own 64 .r3)]
  pre := fun a => match a with
    | [.sc (.sl .int list)] => (((list).length : Nat) : Int) ≤ 1099511627776
    | _ => False
  post := fun a r => match a, r with
    | [.sc (.sl .int list)], [.sc (.sl .r3 r)] => r = greedyD list ∧ (((r).length : Nat) : Int) ≤ 40
    | _, _ => False
  kept := false
theorem m_s_TokensGreedy : Meets Try.prog 86 S_s_TokensGreedy :=
  meets tok mixed Try.func86 (by kernel_rfl) (l := [(46, S_s_ListValid), (89, S_s_l14Match)]) ⟨m_s_ListValid, m_s_l14Match, trivial⟩ (ann := [(3, [.slot 3 (.own 64 .r3), .slot 4 .int])]) v_s_TokensGreedy (by kernel_rfl)
def S_s_l14Token : FSpec where
  args := [.agg [.int, .int, .int], .sc .int]
  outs := [.sc .bool]
  pre := fun a => match a with
    | [.agg [.int _ s, .int _ b, .int _ m], .sc (.int _ have_)] => 0 ≤ have_ ∧ have_ ≤ 40
    | _ => False
  post := fun a r => match a, r with
    | [.agg [.int _ s, .int _ b, .int _ m], .sc (.int _ have_)], [.sc (.bool r)] => r = tokOk (s, b, m) have_
    | _, _ => False
  kept := false
theorem m_s_l14Token : Meets Try.prog 106 S_s_l14Token :=
  meets tok mixed Try.func106 (by kernel_rfl) (l := [(75, S_s_l6In)]) ⟨m_s_l6In, trivial⟩ (ann := []) v_s_l14Token (by kernel_rfl)
def S_i_TokensExpand : FSpec where
  args := [.sc (.sl .r3)]
  outs := [.sc (.own 3 .int), .sc .bool]
  pre := fun a => match a with
    | [.sc (.sl .r3 tokens)] => (((tokens).length : Nat) : Int) ≤ 1099511627776
    | _ => False
  post := fun a r => match a, r with
    | [.sc (.sl .r3 tokens)], [.sc (.sl .int out), .sc (.bool ok)] => ok = (expand tokens).isSome ∧ out = (expand tokens).getD []
    | _, _ => False
  kept := false
theorem m_i_TokensExpand : Meets Try.prog 71 S_i_TokensExpand :=
  meets tok mixed Try.func71 (by kernel_rfl) (l := [(74, S_i_within)]) ⟨m_i_within, trivial⟩ (ann := [(3, [.slot 4 (.own 3 .int), .slot 10 .int]), (10, [.slot 4 (.own 3 .int), .slot 53 .int])]) v_i_TokensExpand (by kernel_rfl)
def S_s_TokensExpand : FSpec where
  args := [.sc (.sl .r3)]
  outs := [.sc (.own 3 .int), .sc .bool]
  pre := fun a => match a with
    | [.sc (.sl .r3 tokens)] => (((tokens).length : Nat) : Int) ≤ 1099511627776
    | _ => False
  post := fun a r => match a, r with
    | [.sc (.sl .r3 tokens)], [.sc (.sl .int out), .sc (.bool ok)] => ok = (expand tokens).isSome ∧ out = (expand tokens).getD []
    | _, _ => False
  kept := false
theorem m_s_TokensExpand : Meets Try.prog 92 S_s_TokensExpand :=
  meets tok mixed Try.func92 (by kernel_rfl) (l := [(106, S_s_l14Token)]) ⟨m_s_l14Token, trivial⟩ (ann := [(3, [.slot 4 (.own 3 .int), .slot 5 .int]), (10, [.slot 4 (.own 3 .int), .slot 6 .int])]) v_s_TokensExpand (by kernel_rfl)
def S_i_costOf : FSpec where
  args := [.sc (.sl .r3)]
  outs := [.sc .int]
  pre := fun a => match a with
    | [.sc (.sl .r3 tokens)] => (((tokens).length : Nat) : Int) ≤ 1099511627776
    | _ => False
  post := fun a r => match a, r with
    | [.sc (.sl .r3 tokens)], [.sc (.int _ n)] => n = costOf tokens
    | _, _ => False
  kept := false
theorem m_i_costOf : Meets Try.prog 88 S_i_costOf :=
  meets tok mixed Try.func88 (by kernel_rfl) (l := []) trivial (ann := [(3, [.slot 3 .int, .slot 8 .int])]) v_i_costOf (by kernel_rfl)
def S_s_l15Cost : FSpec where
  args := [.sc (.sl .r3)]
  outs := [.sc .int]
  pre := fun a => match a with
    | [.sc (.sl .r3 tokens)] => (((tokens).length : Nat) : Int) ≤ 1099511627776
    | _ => False
  post := fun a r => match a, r with
    | [.sc (.sl .r3 tokens)], [.sc (.int _ n)] => n = costOf' tokens
    | _, _ => False
  kept := false
theorem m_s_l15Cost : Meets Try.prog 85 S_s_l15Cost :=
  meets tok mixed Try.func85 (by kernel_rfl) (l := []) trivial (ann := [(3, [.slot 3 .int, .slot 4 .int])]) v_s_l15Cost (by kernel_rfl)
def S_i_TokensCost : FSpec where
  args := [.sc (.sl .r3)]
  outs := [.sc .int]
  pre := fun a => match a with
    | [.sc (.sl .r3 tokens)] => (((tokens).length : Nat) : Int) ≤ 1099511627776
    | _ => False
  post := fun a r => match a, r with
    | [.sc (.sl .r3 tokens)], [.sc (.int _ n)] => n = if (expand tokens).isSome then costOf tokens else -1
    | _, _ => False
  kept := false
theorem m_i_TokensCost : Meets Try.prog 69 S_i_TokensCost :=
  meets tok mixed Try.func69 (by kernel_rfl) (l := [(71, S_i_TokensExpand), (88, S_i_costOf)]) ⟨m_i_TokensExpand, m_i_costOf, trivial⟩ (ann := []) v_i_TokensCost (by kernel_rfl)
end Go.Proofs.Ythongcikinnjlaa
