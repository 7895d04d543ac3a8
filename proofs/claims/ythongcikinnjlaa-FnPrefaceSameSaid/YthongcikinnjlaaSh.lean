/-
  Functions meet their contracts: h_preface.
-/
import Derived.Test.YthongcikinnjlaaT
import Derived.Test.YthongcikinnjlaaVh
import Derived.Test.YthongcikinnjlaaSa
import Derived.Test.YthongcikinnjlaaSb
import Derived.Test.YthongcikinnjlaaSg
set_option linter.unusedVariables false
set_option linter.unusedSimpArgs false
open Go Go.Ax Go.Mx
namespace Go.Proofs.Ythongcikinnjlaa
def S_l_toToken : FSpec where
  args := [.agg [.int, .int, .int]]
  outs := [.agg [.int, .int, .int]]
  pre := fun a => match a with
    | [.agg [.int _ s, .int _ f, .int _ m]] => True
    | _ => False
  post := fun a r => match a, r with
    | [.agg [.int _ s, .int _ f, .int _ m]], [.agg [.int _ s2, .int _ f2, .int _ m2]] => s2 = s ∧ f2 = f ∧ m2 = m
    | _, _ => False
  kept := false
theorem m_l_toToken : Meets Try.prog 93 S_l_toToken :=
  meets tok mixed Try.func93 (by kernel_rfl) (l := []) trivial (ann := []) v_l_toToken (by kernel_rfl)
def S_l_eqToken : FSpec where
  args := [.agg [.int, .int, .int], .agg [.int, .int, .int]]
  outs := [.sc .bool]
  pre := fun a => match a with
    | [.agg [.int _ s, .int _ f, .int _ m], .agg [.int _ s2, .int _ f2, .int _ m2]] => True
    | _ => False
  post := fun a r => match a, r with
    | [.agg [.int _ s, .int _ f, .int _ m], .agg [.int _ s2, .int _ f2, .int _ m2]], [.sc (.bool r)] => r = decide ((s, f, m) = (s2, f2, m2))
    | _, _ => False
  kept := false
theorem m_l_eqToken : Meets Try.prog 91 S_l_eqToken :=
  meets tok mixed Try.func91 (by kernel_rfl) (l := []) trivial (ann := []) v_l_eqToken (by kernel_rfl)
def S_l_toTokenS : FSpec where
  args := [.sc (.sl .r3)]
  outs := [.sc (.own 64 .r3)]
  pre := fun a => match a with
    | [.sc (.sl .r3 a)] => (((a).length : Nat) : Int) ≤ 1099511627776
    | _ => False
  post := fun a r => match a, r with
    | [.sc (.sl .r3 a)], [.sc (.sl .r3 r)] => r = a
    | _, _ => False
  kept := false
theorem m_l_toTokenS : Meets Try.prog 59 S_l_toTokenS :=
  meets tok mixed Try.func59 (by kernel_rfl) (l := [(93, S_l_toToken)]) ⟨m_l_toToken, trivial⟩ (ann := [(3, [.slot 4 .int, .arr 3 64 .r3])]) v_l_toTokenS (by kernel_rfl)
def S_l_szTokenS : FSpec where
  args := [.sc (.sl .r3), .sc .int]
  outs := [.sc .int]
  pre := fun a => match a with
    | [.sc (.sl .r3 a), .sc (.int _ left)] => (((a).length : Nat) : Int) ≤ 9223372036854775807 ∧ 0 ≤ left ∧ left ≤ 1000000000000000000
    | _ => False
  post := fun a r => match a, r with
    | [.sc (.sl .r3 a), .sc (.int _ left)], [.sc (.int _ r)] => r = if left - a.length < 0 then -1 else left - a.length
    | _, _ => False
  kept := false
theorem m_l_szTokenS : Meets Try.prog 57 S_l_szTokenS :=
  meets tok mixed Try.func57 (by kernel_rfl) (l := []) trivial (ann := []) v_l_szTokenS (by kernel_rfl)
def S_l_eqTokenS : FSpec where
  args := [.sc (.sl .r3), .sc (.sl .r3)]
  outs := [.sc .bool]
  pre := fun a => match a with
    | [.sc (.sl .r3 a), .sc (.sl .r3 b)] => (((a).length : Nat) : Int) ≤ 1099511627776 ∧ (((b).length : Nat) : Int) ≤ 1099511627776
    | _ => False
  post := fun a r => match a, r with
    | [.sc (.sl .r3 a), .sc (.sl .r3 b)], [.sc (.bool r)] => r = decide (a = b)
    | _, _ => False
  kept := false
theorem m_l_eqTokenS : Meets Try.prog 54 S_l_eqTokenS :=
  meets tok mixed Try.func54 (by kernel_rfl) (l := [(91, S_l_eqToken)]) ⟨m_l_eqToken, trivial⟩ (ann := [(4, [.slot 5 .int])]) v_l_eqTokenS (by kernel_rfl)
def S_l_sameTokens : FSpec where
  args := [.sc (.sl .r3), .sc (.sl .r3)]
  outs := [.sc .bool]
  pre := fun a => match a with
    | [.sc (.sl .r3 a), .sc (.sl .r3 b)] => (((a).length : Nat) : Int) ≤ 1099511627776 ∧ (((b).length : Nat) : Int) ≤ 1099511627776
    | _ => False
  post := fun a r => match a, r with
    | [.sc (.sl .r3 a), .sc (.sl .r3 b)], [.sc (.bool r)] => r = decide (a = b)
    | _, _ => False
  kept := false
theorem m_l_sameTokens : Meets Try.prog 63 S_l_sameTokens :=
  meets tok mixed Try.func63 (by kernel_rfl) (l := []) trivial (ann := [(4, [.slot 5 .int])]) v_l_sameTokens (by kernel_rfl)
def S_l_markTokenS : FSpec where
  args := [.sc (.own 64 .r3), .sc .int]
  outs := [.sc .int]
  pre := fun a => match a with
    | [.sc (.sl .r3 a), .sc (.int _ k)] => (((a).length : Nat) : Int) ≤ 1099511627776 ∧ 0 ≤ k ∧ k ≤ 1000000000000000
    | _ => False
  post := fun a r => match a, r with
    | [.sc (.sl .r3 a), .sc (.int _ k)], [.sc (.sl .r3 a'), .sc (.int _ r)] => r = k + 3 * a.length ∧ a' = marks3 k a.length
    | _, _ => False
  kept := false
theorem m_l_markTokenS : Meets Try.prog 55 S_l_markTokenS :=
  meets tok mixed Try.func55 (by kernel_rfl) (l := []) trivial (ann := [(2, [.slot 1 .int, .slot 5 .int, .arr 0 64 .r3])]) v_l_markTokenS (by kernel_rfl)
def S_l_heldTokenS : FSpec where
  args := [.sc (.sl .r3), .sc .int]
  outs := [.sc .int]
  pre := fun a => match a with
    | [.sc (.sl .r3 a), .sc (.int _ k)] => (((a).length : Nat) : Int) ≤ 1099511627776 ∧ 0 ≤ k ∧ k ≤ 1000000000000000
    | _ => False
  post := fun a r => match a, r with
    | [.sc (.sl .r3 a), .sc (.int _ k)], [.sc (.int _ r)] => r = if a = marks3 k a.length then k + 3 * a.length else -1
    | _, _ => False
  kept := false
theorem m_l_heldTokenS : Meets Try.prog 56 S_l_heldTokenS :=
  meets tok mixed Try.func56 (by kernel_rfl) (l := []) trivial (ann := [(2, [.slot 1 .int, .slot 5 .int])]) v_l_heldTokenS (by kernel_rfl)
def S_i_prefaceOk : FSpec where
  args := [.sc (.sl .int)]
  outs := [.sc .bool]
  pre := fun a => match a with
    | [.sc (.sl .int preface)] => (((preface).length : Nat) : Int) ≤ 1099511627776
    | _ => False
  post := fun a r => match a, r with
    | [.sc (.sl .int preface)], [.sc (.bool r)] => r = (decide (preface.length ≤ 16) && LV preface)
    | _, _ => False
  kept := false
theorem m_i_prefaceOk : Meets Try.prog 94 S_i_prefaceOk :=
  meets tok mixed Try.func94 (by kernel_rfl) (l := [(65, S_i_ListValid)]) ⟨m_i_ListValid, trivial⟩ (ann := []) v_i_prefaceOk (by kernel_rfl)
def S_i_joined : FSpec where
  args := [.sc (.sl .int), .sc (.sl .int)]
  outs := [.sc (.own 3 .int), .sc .bool]
  pre := fun a => match a with
    | [.sc (.sl .int preface), .sc (.sl .int list)] => (((preface).length : Nat) : Int) ≤ 10000000 ∧ (((list).length : Nat) : Int) ≤ 10000000
    | _ => False
  post := fun a r => match a, r with
    | [.sc (.sl .int preface), .sc (.sl .int list)], [.sc (.sl .int both), .sc (.bool ok)] => both = preface ++ list ∧ ok = prefOk preface list
    | _, _ => False
  kept := false
theorem m_i_joined : Meets Try.prog 87 S_i_joined :=
  meets tok mixed Try.func87 (by kernel_rfl) (l := [(65, S_i_ListValid), (94, S_i_prefaceOk), (95, S_i_cloned)]) ⟨m_i_ListValid, m_i_prefaceOk, m_i_cloned, trivial⟩ (ann := []) v_i_joined (by kernel_rfl)
def S_i_PrefaceTokens : FSpec where
  args := [.sc (.sl .int), .sc (.sl .int)]
  outs := [.sc (.own 64 .r3)]
  pre := fun a => match a with
    | [.sc (.sl .int preface), .sc (.sl .int list)] => (((preface).length : Nat) : Int) ≤ 10000000 ∧ (((list).length : Nat) : Int) ≤ 10000000
    | _ => False
  post := fun a r => match a, r with
    | [.sc (.sl .int preface), .sc (.sl .int list)], [.sc (.sl .r3 r)] => r = prefD preface list ∧ (((r).length : Nat) : Int) ≤ 40
    | _, _ => False
  kept := false
theorem m_i_PrefaceTokens : Meets Try.prog 53 S_i_PrefaceTokens :=
  meets tok mixed Try.func53 (by kernel_rfl) (l := [(87, S_i_joined), (90, S_i_greedy)]) ⟨m_i_joined, m_i_greedy, trivial⟩ (ann := []) v_i_PrefaceTokens (by kernel_rfl)
def S_i_PrefaceGain : FSpec where
  args := [.sc (.sl .int), .sc (.sl .int)]
  outs := [.sc .int]
  pre := fun a => match a with
    | [.sc (.sl .int preface), .sc (.sl .int list)] => (((preface).length : Nat) : Int) ≤ 10000000 ∧ (((list).length : Nat) : Int) ≤ 10000000
    | _ => False
  post := fun a r => match a, r with
    | [.sc (.sl .int preface), .sc (.sl .int list)], [.sc (.int _ r)] => r = gainD preface list
    | _, _ => False
  kept := false
theorem m_i_PrefaceGain : Meets Try.prog 51 S_i_PrefaceGain :=
  meets tok mixed Try.func51 (by kernel_rfl) (l := [(53, S_i_PrefaceTokens), (67, S_i_TokensGreedy), (87, S_i_joined), (88, S_i_costOf)]) ⟨m_i_PrefaceTokens, m_i_TokensGreedy, m_i_joined, m_i_costOf, trivial⟩ (ann := []) v_i_PrefaceGain (by kernel_rfl)
def S_i_PrefaceExpand : FSpec where
  args := [.sc (.sl .int), .sc (.sl .r3)]
  outs := [.sc (.own 3 .int), .sc .bool]
  pre := fun a => match a with
    | [.sc (.sl .int preface), .sc (.sl .r3 tokens)] => (((preface).length : Nat) : Int) ≤ 10000000 ∧ (((tokens).length : Nat) : Int) ≤ 10000000
    | _ => False
  post := fun a r => match a, r with
    | [.sc (.sl .int preface), .sc (.sl .r3 tokens)], [.sc (.sl .int out), .sc (.bool ok)] => ok = (pexpD preface tokens).isSome ∧ out = (pexpD preface tokens).getD []
    | _, _ => False
  kept := false
theorem m_i_PrefaceExpand : Meets Try.prog 60 S_i_PrefaceExpand :=
  meets tok mixed Try.func60 (by kernel_rfl) (l := [(71, S_i_TokensExpand), (94, S_i_prefaceOk), (95, S_i_cloned)]) ⟨m_i_TokensExpand, m_i_prefaceOk, m_i_cloned, trivial⟩ (ann := [(5, [.slot 6 (.own 64 .r3), .slot 18 .int])]) v_i_PrefaceExpand (by kernel_rfl)
def S_s_l33Ok : FSpec where
  args := [.sc (.sl .int), .sc (.sl .int)]
  outs := [.sc .bool]
  pre := fun a => match a with
    | [.sc (.sl .int preface), .sc (.sl .int list)] => (((preface).length : Nat) : Int) ≤ 10000000 ∧ (((list).length : Nat) : Int) ≤ 10000000
    | _ => False
  post := fun a r => match a, r with
    | [.sc (.sl .int preface), .sc (.sl .int list)], [.sc (.bool r)] => r = prefOk preface list
    | _, _ => False
  kept := false
theorem m_s_l33Ok : Meets Try.prog 84 S_s_l33Ok :=
  meets tok mixed Try.func84 (by kernel_rfl) (l := [(46, S_s_ListValid)]) ⟨m_s_ListValid, trivial⟩ (ann := []) v_s_l33Ok (by kernel_rfl)
def S_s_PrefaceTokens : FSpec where
  args := [.sc (.sl .int), .sc (.sl .int)]
  outs := [.sc (.own 64 .r3)]
  pre := fun a => match a with
    | [.sc (.sl .int preface), .sc (.sl .int list)] => (((preface).length : Nat) : Int) ≤ 10000000 ∧ (((list).length : Nat) : Int) ≤ 10000000
    | _ => False
  post := fun a r => match a, r with
    | [.sc (.sl .int preface), .sc (.sl .int list)], [.sc (.sl .r3 r)] => r = prefD preface list ∧ (((r).length : Nat) : Int) ≤ 40
    | _, _ => False
  kept := false
theorem m_s_PrefaceTokens : Meets Try.prog 52 S_s_PrefaceTokens :=
  meets tok mixed Try.func52 (by kernel_rfl) (l := [(84, S_s_l33Ok), (89, S_s_l14Match)]) ⟨m_s_l33Ok, m_s_l14Match, trivial⟩ (ann := [(6, [.slot 5 (.own 64 .r3), .slot 7 .int])]) v_s_PrefaceTokens (by kernel_rfl)
def S_s_PrefaceGain : FSpec where
  args := [.sc (.sl .int), .sc (.sl .int)]
  outs := [.sc .int]
  pre := fun a => match a with
    | [.sc (.sl .int preface), .sc (.sl .int list)] => (((preface).length : Nat) : Int) ≤ 10000000 ∧ (((list).length : Nat) : Int) ≤ 10000000
    | _ => False
  post := fun a r => match a, r with
    | [.sc (.sl .int preface), .sc (.sl .int list)], [.sc (.int _ r)] => r = gainD preface list
    | _, _ => False
  kept := false
theorem m_s_PrefaceGain : Meets Try.prog 50 S_s_PrefaceGain :=
  meets tok mixed Try.func50 (by kernel_rfl) (l := [(52, S_s_PrefaceTokens), (84, S_s_l33Ok), (85, S_s_l15Cost), (86, S_s_TokensGreedy)]) ⟨m_s_PrefaceTokens, m_s_l33Ok, m_s_l15Cost, m_s_TokensGreedy, trivial⟩ (ann := []) v_s_PrefaceGain (by kernel_rfl)
def S_s_PrefaceExpand : FSpec where
  args := [.sc (.sl .int), .sc (.sl .r3)]
  outs := [.sc (.own 3 .int), .sc .bool]
  pre := fun a => match a with
    | [.sc (.sl .int preface), .sc (.sl .r3 tokens)] => (((preface).length : Nat) : Int) ≤ 10000000 ∧ (((tokens).length : Nat) : Int) ≤ 10000000
    | _ => False
  post := fun a r => match a, r with
    | [.sc (.sl .int preface), .sc (.sl .r3 tokens)], [.sc (.sl .int out), .sc (.bool ok)] => ok = (pexpD preface tokens).isSome ∧ out = (pexpD preface tokens).getD []
    | _, _ => False
  kept := false
theorem m_s_PrefaceExpand : Meets Try.prog 58 S_s_PrefaceExpand :=
  meets tok mixed Try.func58 (by kernel_rfl) (l := [(84, S_s_l33Ok), (92, S_s_TokensExpand)]) ⟨m_s_l33Ok, m_s_TokensExpand, trivial⟩ (ann := [(5, [.slot 6 (.own 64 .r3), .slot 7 .int])]) v_s_PrefaceExpand (by kernel_rfl)
def S_s_l92Preface : FSpec where
  args := [.box [.sl .u8, .int]]
  outs := [.sc (.own 3 .int), .sc (.own 3 .int)]
  pre := fun a => match a with
    | [.agg [.sl .u8 b, .int _ p]] => (((b).length : Nat) : Int) ≤ 1099511627776 ∧ 0 ≤ p ∧ p ≤ 800000000
    | _ => False
  post := fun a r => match a, r with
    | [.agg [.sl .u8 b, .int _ p]], [.agg [.sl .u8 b', .int _ p'], .sc (.sl .int old), .sc (.sl .int list)] => b = b' ∧ p ≤ p' ∧ p' ≤ p + 30000 ∧ (((old).length : Nat) : Int) ≤ 400 ∧ (((list).length : Nat) : Int) ≤ 800
    | _, _ => False
  kept := true
theorem m_s_l92Preface : Meets Try.prog 96 S_s_l92Preface :=
  meets tok mixed Try.func96 (by kernel_rfl) (l := [(99, S_s_pick), (101, S_s_l91List)]) ⟨m_s_pick, m_s_l91List, trivial⟩ (ann := []) v_s_l92Preface (by kernel_rfl)
def S_s_l91Tokens : FSpec where
  args := [.box [.sl .u8, .int]]
  outs := [.sc (.own 64 .r3)]
  pre := fun a => match a with
    | [.agg [.sl .u8 b, .int _ p]] => (((b).length : Nat) : Int) ≤ 1099511627776 ∧ 0 ≤ p ∧ p ≤ 850000000
    | _ => False
  post := fun a r => match a, r with
    | [.agg [.sl .u8 b, .int _ p]], [.agg [.sl .u8 b', .int _ p'], .sc (.sl .r3 list)] => b = b' ∧ p ≤ p' ∧ p' ≤ p + 20000 ∧ (((list).length : Nat) : Int) ≤ 80
    | _, _ => False
  kept := true
theorem m_s_l91Tokens : Meets Try.prog 100 S_s_l91Tokens :=
  meets tok mixed Try.func100 (by kernel_rfl) (l := [(86, S_s_TokensGreedy), (99, S_s_pick), (101, S_s_l91List)]) ⟨m_s_TokensGreedy, m_s_pick, m_s_l91List, trivial⟩ (ann := [(7, [.slot 3 (.own 64 .r3), .slot 4 .int, .slot 6 .int, .box 0 [.sl .u8, .int]])]) v_s_l91Tokens (by kernel_rfl)
def S_s_DrawPrefaceTokens : FSpec where
  args := [.sc (.sl .u8)]
  outs := [.sc (.own 3 .int), .sc (.own 3 .int)]
  pre := fun a => match a with
    | [.sc (.sl .u8 code)] => (((code).length : Nat) : Int) ≤ 1099511627776
    | _ => False
  post := fun a r => match a, r with
    | [.sc (.sl .u8 code)], [.sc (.sl .int old), .sc (.sl .int list)] => (((old).length : Nat) : Int) ≤ 400 ∧ (((list).length : Nat) : Int) ≤ 800
    | _, _ => False
  kept := false
theorem m_s_DrawPrefaceTokens : Meets Try.prog 62 S_s_DrawPrefaceTokens :=
  meets tok mixed Try.func62 (by kernel_rfl) (l := [(73, S_s_l6Open), (96, S_s_l92Preface)]) ⟨m_s_l6Open, m_s_l92Preface, trivial⟩ (ann := []) v_s_DrawPrefaceTokens (by kernel_rfl)
def S_s_DrawPrefaceGain : FSpec where
  args := [.sc (.sl .u8)]
  outs := [.sc (.own 3 .int), .sc (.own 3 .int)]
  pre := fun a => match a with
    | [.sc (.sl .u8 code)] => (((code).length : Nat) : Int) ≤ 1099511627776
    | _ => False
  post := fun a r => match a, r with
    | [.sc (.sl .u8 code)], [.sc (.sl .int old), .sc (.sl .int list)] => (((old).length : Nat) : Int) ≤ 400 ∧ (((list).length : Nat) : Int) ≤ 800
    | _, _ => False
  kept := false
theorem m_s_DrawPrefaceGain : Meets Try.prog 68 S_s_DrawPrefaceGain :=
  meets tok mixed Try.func68 (by kernel_rfl) (l := [(73, S_s_l6Open), (96, S_s_l92Preface)]) ⟨m_s_l6Open, m_s_l92Preface, trivial⟩ (ann := []) v_s_DrawPrefaceGain (by kernel_rfl)
def S_s_DrawPrefaceExpand : FSpec where
  args := [.sc (.sl .u8)]
  outs := [.sc (.own 3 .int), .sc (.own 64 .r3)]
  pre := fun a => match a with
    | [.sc (.sl .u8 code)] => (((code).length : Nat) : Int) ≤ 1099511627776
    | _ => False
  post := fun a r => match a, r with
    | [.sc (.sl .u8 code)], [.sc (.sl .int old), .sc (.sl .r3 list)] => (((old).length : Nat) : Int) ≤ 400 ∧ (((list).length : Nat) : Int) ≤ 80
    | _, _ => False
  kept := false
theorem m_s_DrawPrefaceExpand : Meets Try.prog 70 S_s_DrawPrefaceExpand :=
  meets tok mixed Try.func70 (by kernel_rfl) (l := [(52, S_s_PrefaceTokens), (73, S_s_l6Open), (96, S_s_l92Preface), (99, S_s_pick), (100, S_s_l91Tokens)]) ⟨m_s_PrefaceTokens, m_s_l6Open, m_s_l92Preface, m_s_pick, m_s_l91Tokens, trivial⟩ (ann := []) v_s_DrawPrefaceExpand (by kernel_rfl)
end Go.Proofs.Ythongcikinnjlaa
