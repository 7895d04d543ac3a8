/-
  Functions meet their contracts: p_block.
-/
import Derived.Test.YtkkgpcbkkahieaaT
import Derived.Test.YtkkgpcbkkahieaaVp
import Derived.Test.YtkkgpcbkkahieaaSa
import Derived.Test.YtkkgpcbkkahieaaSj
import Derived.Test.YtkkgpcbkkahieaaSk
import Derived.Test.YtkkgpcbkkahieaaSm
import Derived.Test.YtkkgpcbkkahieaaSn
import Derived.Test.YtkkgpcbkkahieaaSo
set_option linter.unusedVariables false
set_option linter.unusedSimpArgs false
open Go Go.Ax Go.Mx
namespace Go.Proofs.Ytkkgpcbkkahieaa
def S_s_l21Runs : FSpec where
  args := [.sc (.sl .int)]
  outs := [.sc (.own 3 .int)]
  pre := fun a => match a with
    | [.sc (.sl .int list)] => LV list = true
    | _ => False
  post := fun a r => match a, r with
    | [.sc (.sl .int list)], [.sc (.sl .int r)] => r = 1 :: (((runs list).length : Nat) : Int) :: flatR (runs list)
    | _, _ => False
  kept := false
theorem m_s_l21Runs : Meets Try.prog 91 S_s_l21Runs :=
  meets tok mixed Try.func91 (by kernel_rfl) (l := [(103, S_s_l4Runs)]) ⟨m_s_l4Runs, trivial⟩ (ann := [(4, [.slot 4 (.own 3 .int), .slot 5 .int])]) v_s_l21Runs (by kernel_rfl)
def S_s_l21Prefix : FSpec where
  args := [.sc (.sl .int)]
  outs := [.sc (.own 3 .int)]
  pre := fun a => match a with
    | [.sc (.sl .int list)] => LV list = true ∧ 0 < (((list).length : Nat) : Int)
    | _ => False
  post := fun a r => match a, r with
    | [.sc (.sl .int list)], [.sc (.sl .int r)] => r = 2 :: (((list).length : Nat) : Int) :: (lens4 (lensF list) ++ bytesOf (enc (lensF list) list))
    | _, _ => False
  kept := false
theorem m_s_l21Prefix : Meets Try.prog 92 S_s_l21Prefix :=
  meets tok mixed Try.func92 (by kernel_rfl) (l := [(104, S_s_LengthsOf), (105, S_s_l3Counts), (106, S_s_PrefixEncode), (107, S_s_BitsBytes)]) ⟨m_s_LengthsOf, m_s_l3Counts, m_s_PrefixEncode, m_s_BitsBytes, trivial⟩ (ann := [(4, [.slot 5 (.own 3 .int), .slot 6 .int])]) v_s_l21Prefix (by kernel_rfl)
def S_s_l21Tokens : FSpec where
  args := [.sc (.sl .int)]
  outs := [.sc (.own 3 .int)]
  pre := fun a => match a with
    | [.sc (.sl .int list)] => LV list = true
    | _ => False
  post := fun a r => match a, r with
    | [.sc (.sl .int list)], [.sc (.sl .int r)] => r = 3 :: (((parseD list).length : Nat) : Int) :: (parseD list).map tokByte
    | _, _ => False
  kept := false
theorem m_s_l21Tokens : Meets Try.prog 93 S_s_l21Tokens :=
  meets tok mixed Try.func93 (by kernel_rfl) (l := [(108, S_s_ParseBest)]) ⟨m_s_ParseBest, trivial⟩ (ann := [(4, [.slot 4 (.own 3 .int), .slot 5 .int])]) v_s_l21Tokens (by kernel_rfl)
def S_s_l21As : FSpec where
  args := [.sc (.sl .int), .sc .int]
  outs := [.sc (.own 3 .int)]
  pre := fun a => match a with
    | [.sc (.sl .int list), .sc (.int _ way)] => LV list = true ∧ 0 ≤ way ∧ way ≤ 3 ∧ (way = 2 → 0 < (((list).length : Nat) : Int))
    | _ => False
  post := fun a r => match a, r with
    | [.sc (.sl .int list), .sc (.int _ way)], [.sc (.sl .int r)] => some r = blockAs list way
    | _, _ => False
  kept := false
theorem m_s_l21As : Meets Try.prog 76 S_s_l21As :=
  meets tok mixed Try.func76 (by kernel_rfl) (l := [(91, S_s_l21Runs), (92, S_s_l21Prefix), (93, S_s_l21Tokens)]) ⟨m_s_l21Runs, m_s_l21Prefix, m_s_l21Tokens, trivial⟩ (ann := []) v_s_l21As (by kernel_rfl)
def S_s_BlockAs : FSpec where
  args := [.sc (.sl .int), .sc .int]
  outs := [.sc (.own 3 .int), .sc .bool]
  pre := fun a => match a with
    | [.sc (.sl .int list), .sc (.int _ way)] => (((list).length : Nat) : Int) ≤ 1099511627776
    | _ => False
  post := fun a r => match a, r with
    | [.sc (.sl .int list), .sc (.int _ way)], [.sc (.sl .int r), .sc (.bool ok)] => ok = (blockAs list way).isSome ∧ r = (blockAs list way).getD [] ∧ (((r).length : Nat) : Int) ≤ 82
    | _, _ => False
  kept := false
theorem m_s_BlockAs : Meets Try.prog 58 S_s_BlockAs :=
  meets tok mixed Try.func58 (by kernel_rfl) (l := [(45, S_s_l6In), (46, S_s_ListValid), (76, S_s_l21As)]) ⟨m_s_l6In, m_s_ListValid, m_s_l21As, trivial⟩ (ann := []) v_s_BlockAs (by kernel_rfl)
def S_i_BlockAs : FSpec where
  args := [.sc (.sl .int), .sc .int]
  outs := [.sc (.own 3 .int), .sc .bool]
  pre := fun a => match a with
    | [.sc (.sl .int list), .sc (.int _ way)] => (((list).length : Nat) : Int) ≤ 1099511627776
    | _ => False
  post := fun a r => match a, r with
    | [.sc (.sl .int list), .sc (.int _ way)], [.sc (.sl .int r), .sc (.bool ok)] => ok = (blockAs list way).isSome ∧ r = (blockAs list way).getD [] ∧ (((r).length : Nat) : Int) ≤ 82
    | _, _ => False
  kept := false
theorem m_i_BlockAs : Meets Try.prog 50 S_i_BlockAs :=
  meets tok mixed Try.func50 (by kernel_rfl) (l := [(49, S_i_ListValid), (59, S_i_RunsOf), (60, S_i_LengthsOf), (61, S_i_countsOf), (62, S_i_PrefixEncode), (63, S_i_BitsBytes), (64, S_i_ParseBest)]) ⟨m_i_ListValid, m_i_RunsOf, m_i_LengthsOf, m_i_countsOf, m_i_PrefixEncode, m_i_BitsBytes, m_i_ParseBest, trivial⟩ (ann := [(12, [.slot 6 (.own 3 .int), .slot 48 .int]), (24, [.slot 6 (.own 3 .int), .slot 16 .int]), (32, [.slot 6 (.own 3 .int), .slot 120 .int])]) v_i_BlockAs (by kernel_rfl)
def S_s_BlockPack : FSpec where
  args := [.sc (.sl .int)]
  outs := [.sc (.own 3 .int)]
  pre := fun a => match a with
    | [.sc (.sl .int list)] => (((list).length : Nat) : Int) ≤ 1099511627776
    | _ => False
  post := fun a r => match a, r with
    | [.sc (.sl .int list)], [.sc (.sl .int r)] => r = packB list ∧ (((r).length : Nat) : Int) ≤ 82
    | _, _ => False
  kept := false
theorem m_s_BlockPack : Meets Try.prog 47 S_s_BlockPack :=
  meets tok mixed Try.func47 (by kernel_rfl) (l := [(58, S_s_BlockAs)]) ⟨m_s_BlockAs, trivial⟩ (ann := [(3, [.slot 3 (.own 3 .int), .slot 5 .int])]) v_s_BlockPack (by kernel_rfl)
def S_i_BlockPack : FSpec where
  args := [.sc (.sl .int)]
  outs := [.sc (.own 3 .int)]
  pre := fun a => match a with
    | [.sc (.sl .int list)] => (((list).length : Nat) : Int) ≤ 1099511627776
    | _ => False
  post := fun a r => match a, r with
    | [.sc (.sl .int list)], [.sc (.sl .int r)] => r = packB list ∧ (((r).length : Nat) : Int) ≤ 82
    | _, _ => False
  kept := false
theorem m_i_BlockPack : Meets Try.prog 31 S_i_BlockPack :=
  meets tok mixed Try.func31 (by kernel_rfl) (l := [(50, S_i_BlockAs)]) ⟨m_i_BlockAs, trivial⟩ (ann := [(3, [.slot 3 (.own 3 .int), .slot 4 .int])]) v_i_BlockPack (by kernel_rfl)
end Go.Proofs.Ytkkgpcbkkahieaa
