/-
  Functions meet their contracts: p_block.
-/
import Derived.Test.YtgimfahkojmplaaT
import Derived.Test.YtgimfahkojmplaaVp
import Derived.Test.YtgimfahkojmplaaSa
import Derived.Test.YtgimfahkojmplaaSj
import Derived.Test.YtgimfahkojmplaaSk
import Derived.Test.YtgimfahkojmplaaSm
import Derived.Test.YtgimfahkojmplaaSn
import Derived.Test.YtgimfahkojmplaaSo
set_option linter.unusedVariables false
set_option linter.unusedSimpArgs false
open Go Go.Ax Go.Mx
namespace Go.Proofs.Ytgimfahkojmplaa
def S_s_l21Runs : FSpec where
  args := [.sc (.sl .int)]
  outs := [.sc (.own 3 .int)]
  pre := fun a => match a with
    | [.sc (.sl .int list)] => LV list = true
    | _ => False
  post := fun a r => match a, r with
    | [.sc (.sl .int list)], [.sc (.sl .int r)] => r = 1 :: (((runs list).length : Nat) : Int) :: flatR (runs list)
    | _, _ => False
  kept := false
theorem m_s_l21Runs : Meets Try.prog 106 S_s_l21Runs :=
  meets tok mixed Try.func106 (by kernel_rfl) (l := [(112, S_s_l4Runs)]) ⟨m_s_l4Runs, trivial⟩ (ann := [(4, [.slot 4 (.own 3 .int), .slot 5 .int])]) v_s_l21Runs (by kernel_rfl)
def S_s_l21Prefix : FSpec where
  args := [.sc (.sl .int)]
  outs := [.sc (.own 3 .int)]
  pre := fun a => match a with
    | [.sc (.sl .int list)] => LV list = true ∧ 0 < (((list).length : Nat) : Int)
    | _ => False
  post := fun a r => match a, r with
    | [.sc (.sl .int list)], [.sc (.sl .int r)] => r = 2 :: (((list).length : Nat) : Int) :: (lens4 (lensF list) ++ bytesOf (enc (lensF list) list))
    | _, _ => False
  kept := false
theorem m_s_l21Prefix : Meets Try.prog 107 S_s_l21Prefix :=
  meets tok mixed Try.func107 (by kernel_rfl) (l := [(113, S_s_LengthsOf), (114, S_s_l3Counts), (115, S_s_PrefixEncode), (116, S_s_BitsBytes)]) ⟨m_s_LengthsOf, m_s_l3Counts, m_s_PrefixEncode, m_s_BitsBytes, trivial⟩ (ann := [(4, [.slot 5 (.own 3 .int), .slot 6 .int])]) v_s_l21Prefix (by kernel_rfl)
def S_s_l21Tokens : FSpec where
  args := [.sc (.sl .int)]
  outs := [.sc (.own 3 .int)]
  pre := fun a => match a with
    | [.sc (.sl .int list)] => LV list = true
    | _ => False
  post := fun a r => match a, r with
    | [.sc (.sl .int list)], [.sc (.sl .int r)] => r = 3 :: (((parseD list).length : Nat) : Int) :: (parseD list).map tokByte
    | _, _ => False
  kept := false
theorem m_s_l21Tokens : Meets Try.prog 108 S_s_l21Tokens :=
  meets tok mixed Try.func108 (by kernel_rfl) (l := [(117, S_s_ParseBest)]) ⟨m_s_ParseBest, trivial⟩ (ann := [(4, [.slot 4 (.own 3 .int), .slot 5 .int])]) v_s_l21Tokens (by kernel_rfl)
def S_s_l21As : FSpec where
  args := [.sc (.sl .int), .sc .int]
  outs := [.sc (.own 3 .int)]
  pre := fun a => match a with
    | [.sc (.sl .int list), .sc (.int _ way)] => LV list = true ∧ 0 ≤ way ∧ way ≤ 3 ∧ (way = 2 → 0 < (((list).length : Nat) : Int))
    | _ => False
  post := fun a r => match a, r with
    | [.sc (.sl .int list), .sc (.int _ way)], [.sc (.sl .int r)] => some r = blockAs list way
    | _, _ => False
  kept := false
theorem m_s_l21As : Meets Try.prog 97 S_s_l21As :=
  meets tok mixed Try.func97 (by kernel_rfl) (l := [(106, S_s_l21Runs), (107, S_s_l21Prefix), (108, S_s_l21Tokens)]) ⟨m_s_l21Runs, m_s_l21Prefix, m_s_l21Tokens, trivial⟩ (ann := []) v_s_l21As (by kernel_rfl)
def S_s_BlockAs : FSpec where
  args := [.sc (.sl .int), .sc .int]
  outs := [.sc (.own 3 .int), .sc .bool]
  pre := fun a => match a with
    | [.sc (.sl .int list), .sc (.int _ way)] => (((list).length : Nat) : Int) ≤ 1099511627776
    | _ => False
  post := fun a r => match a, r with
    | [.sc (.sl .int list), .sc (.int _ way)], [.sc (.sl .int r), .sc (.bool ok)] => ok = (blockAs list way).isSome ∧ r = (blockAs list way).getD [] ∧ (((r).length : Nat) : Int) ≤ 82
    | _, _ => False
  kept := false
theorem m_s_BlockAs : Meets Try.prog 76 S_s_BlockAs :=
  meets tok mixed Try.func76 (by kernel_rfl) (l := [(47, S_s_l6In), (96, S_s_ListValid), (97, S_s_l21As)]) ⟨m_s_l6In, m_s_ListValid, m_s_l21As, trivial⟩ (ann := []) v_s_BlockAs (by kernel_rfl)
def S_i_BlockAs : FSpec where
  args := [.sc (.sl .int), .sc .int]
  outs := [.sc (.own 3 .int), .sc .bool]
  pre := fun a => match a with
    | [.sc (.sl .int list), .sc (.int _ way)] => (((list).length : Nat) : Int) ≤ 1099511627776
    | _ => False
  post := fun a r => match a, r with
    | [.sc (.sl .int list), .sc (.int _ way)], [.sc (.sl .int r), .sc (.bool ok)] => ok = (blockAs list way).isSome ∧ r = (blockAs list way).getD [] ∧ (((r).length : Nat) : Int) ≤ 82
    | _, _ => False
  kept := false
theorem m_i_BlockAs : Meets Try.prog 52 S_i_BlockAs :=
  meets tok mixed Try.func52 (by kernel_rfl) (l := [(67, S_i_ListValid), (68, S_i_RunsOf), (69, S_i_LengthsOf), (70, S_i_countsOf), (71, S_i_PrefixEncode), (72, S_i_BitsBytes), (73, S_i_ParseBest)]) ⟨m_i_ListValid, m_i_RunsOf, m_i_LengthsOf, m_i_countsOf, m_i_PrefixEncode, m_i_BitsBytes, m_i_ParseBest, trivial⟩ (ann := [(12, [.slot 6 (.own 3 .int), .slot 48 .int]), (24, [.slot 6 (.own 3 .int), .slot 16 .int]), (32, [.slot 6 (.own 3 .int), .slot 120 .int])]) v_i_BlockAs (by kernel_rfl)
def S_s_BlockPack : FSpec where
  args := [.sc (.sl .int)]
  outs := [.sc (.own 3 .int)]
  pre := fun a => match a with
    | [.sc (.sl .int list)] => (((list).length : Nat) : Int) ≤ 1099511627776
    | _ => False
  post := fun a r => match a, r with
    | [.sc (.sl .int list)], [.sc (.sl .int r)] => r = packB list ∧ (((r).length : Nat) : Int) ≤ 82
    | _, _ => False
  kept := false
theorem m_s_BlockPack : Meets Try.prog 77 S_s_BlockPack :=
  meets tok mixed Try.func77 (by kernel_rfl) (l := [(76, S_s_BlockAs)]) ⟨m_s_BlockAs, trivial⟩ (ann := [(3, [.slot 3 (.own 3 .int), .slot 5 .int])]) v_s_BlockPack (by kernel_rfl)
end Go.Proofs.Ytgimfahkojmplaa
