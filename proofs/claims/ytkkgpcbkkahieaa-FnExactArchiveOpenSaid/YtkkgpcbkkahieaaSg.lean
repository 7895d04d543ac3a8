/-
  Functions meet their contracts: g_tokens.
-/
import Derived.Test.YtkkgpcbkkahieaaT
import Derived.Test.YtkkgpcbkkahieaaVg
import Derived.Test.YtkkgpcbkkahieaaSa
set_option linter.unusedVariables false
set_option linter.unusedSimpArgs false
open Go Go.Ax Go.Mx
namespace Go.Proofs.Ytkkgpcbkkahieaa
def S_i_matchLong : FSpec where
  args := [.sc (.sl .int), .sc .int, .sc .int]
  outs := [.sc .int]
  pre := fun a => match a with
    | [.sc (.sl .int list), .sc (.int _ at_), .sc (.int _ back)] => (((list).length : Nat) : Int) ≤ 1099511627776 ∧ 0 ≤ at_ ∧ at_ ≤ list.length ∧ 1 ≤ back ∧ back ≤ at_
    | _ => False
  post := fun a r => match a, r with
    | [.sc (.sl .int list), .sc (.int _ at_), .sc (.int _ back)], [.sc (.int _ n)] => n = mlong list at_ back
    | _, _ => False
  kept := false
theorem m_i_matchLong : Meets Try.prog 94 S_i_matchLong :=
  meets tok mixed Try.func94 (by kernel_rfl) (l := []) trivial (ann := [(2, [.slot 7 .int])]) v_i_matchLong (by kernel_rfl)
def S_s_l14Same : FSpec where
  args := [.sc (.sl .int), .sc .int, .sc .int]
  outs := [.sc .int]
  pre := fun a => match a with
    | [.sc (.sl .int list), .sc (.int _ at_), .sc (.int _ back)] => (((list).length : Nat) : Int) ≤ 1099511627776 ∧ 0 ≤ at_ ∧ at_ ≤ list.length ∧ 1 ≤ back ∧ back ≤ at_
    | _ => False
  post := fun a r => match a, r with
    | [.sc (.sl .int list), .sc (.int _ at_), .sc (.int _ back)], [.sc (.int _ n)] => n = mlong list at_ back
    | _, _ => False
  kept := false
theorem m_s_l14Same : Meets Try.prog 122 S_s_l14Same :=
  meets tok mixed Try.func122 (by kernel_rfl) (l := []) trivial (ann := [(2, [.slot 7 .int])]) v_s_l14Same (by kernel_rfl)
def S_s_l14Token : FSpec where
  args := [.agg [.int, .int, .int], .sc .int]
  outs := [.sc .bool]
  pre := fun a => match a with
    | [.agg [.int _ s, .int _ b, .int _ m], .sc (.int _ have_)] => 0 ≤ have_ ∧ have_ ≤ 40
    | _ => False
  post := fun a r => match a, r with
    | [.agg [.int _ s, .int _ b, .int _ m], .sc (.int _ have_)], [.sc (.bool r)] => r = tokOk (s, b, m) have_
    | _, _ => False
  kept := false
theorem m_s_l14Token : Meets Try.prog 110 S_s_l14Token :=
  meets tok mixed Try.func110 (by kernel_rfl) (l := [(45, S_s_l6In)]) ⟨m_s_l6In, trivial⟩ (ann := []) v_s_l14Token (by kernel_rfl)
def S_i_TokensExpand : FSpec where
  args := [.sc (.sl .r3)]
  outs := [.sc (.own 3 .int), .sc .bool]
  pre := fun a => match a with
    | [.sc (.sl .r3 tokens)] => (((tokens).length : Nat) : Int) ≤ 1099511627776
    | _ => False
  post := fun a r => match a, r with
    | [.sc (.sl .r3 tokens)], [.sc (.sl .int out), .sc (.bool ok)] => ok = (expand tokens).isSome ∧ out = (expand tokens).getD []
    | _, _ => False
  kept := false
theorem m_i_TokensExpand : Meets Try.prog 71 S_i_TokensExpand :=
  meets tok mixed Try.func71 (by kernel_rfl) (l := [(48, S_i_within)]) ⟨m_i_within, trivial⟩ (ann := [(3, [.slot 4 (.own 3 .int), .slot 10 .int]), (10, [.slot 4 (.own 3 .int), .slot 53 .int])]) v_i_TokensExpand (by kernel_rfl)
def S_s_TokensExpand : FSpec where
  args := [.sc (.sl .r3)]
  outs := [.sc (.own 3 .int), .sc .bool]
  pre := fun a => match a with
    | [.sc (.sl .r3 tokens)] => (((tokens).length : Nat) : Int) ≤ 1099511627776
    | _ => False
  post := fun a r => match a, r with
    | [.sc (.sl .r3 tokens)], [.sc (.sl .int out), .sc (.bool ok)] => ok = (expand tokens).isSome ∧ out = (expand tokens).getD []
    | _, _ => False
  kept := false
theorem m_s_TokensExpand : Meets Try.prog 98 S_s_TokensExpand :=
  meets tok mixed Try.func98 (by kernel_rfl) (l := [(110, S_s_l14Token)]) ⟨m_s_l14Token, trivial⟩ (ann := [(3, [.slot 4 (.own 3 .int), .slot 5 .int]), (10, [.slot 4 (.own 3 .int), .slot 6 .int])]) v_s_TokensExpand (by kernel_rfl)
end Go.Proofs.Ytkkgpcbkkahieaa
