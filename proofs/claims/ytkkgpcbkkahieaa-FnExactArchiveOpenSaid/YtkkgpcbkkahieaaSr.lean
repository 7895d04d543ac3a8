/-
  Functions meet their contracts: r_open.
-/
import Derived.Test.YtkkgpcbkkahieaaT
import Derived.Test.YtkkgpcbkkahieaaVr
import Derived.Test.YtkkgpcbkkahieaaSa
import Derived.Test.YtkkgpcbkkahieaaSg
import Derived.Test.YtkkgpcbkkahieaaSm
import Derived.Test.YtkkgpcbkkahieaaSn
import Derived.Test.YtkkgpcbkkahieaaSp
set_option linter.unusedVariables false
set_option linter.unusedSimpArgs false
open Go Go.Ax Go.Mx
namespace Go.Proofs.Ytkkgpcbkkahieaa
def S_i_RunsJoin : FSpec where
  args := [.sc (.sl .r2)]
  outs := [.sc (.own 3 .int), .sc .bool]
  pre := fun a => match a with
    | [.sc (.sl .r2 runs)] => (((runs).length : Nat) : Int) ≤ 1099511627776
    | _ => False
  post := fun a r => match a, r with
    | [.sc (.sl .r2 runs)], [.sc (.sl .int r), .sc (.bool ok)] => ok = (joinD runs).isSome ∧ r = (joinD runs).getD []
    | _, _ => False
  kept := false
theorem m_i_RunsJoin : Meets Try.prog 67 S_i_RunsJoin :=
  meets tok mixed Try.func67 (by kernel_rfl) (l := [(48, S_i_within)]) ⟨m_i_within, trivial⟩ (ann := [(3, [.slot 4 (.own 3 .int), .slot 10 .int]), (8, [.slot 4 (.own 3 .int), .slot 46 .int])]) v_i_RunsJoin (by kernel_rfl)
def S_s_RunsJoin : FSpec where
  args := [.sc (.sl .r2)]
  outs := [.sc (.own 3 .int), .sc .bool]
  pre := fun a => match a with
    | [.sc (.sl .r2 runs)] => (((runs).length : Nat) : Int) ≤ 1099511627776
    | _ => False
  post := fun a r => match a, r with
    | [.sc (.sl .r2 runs)], [.sc (.sl .int r), .sc (.bool ok)] => ok = (joinD runs).isSome ∧ r = (joinD runs).getD []
    | _, _ => False
  kept := false
theorem m_s_RunsJoin : Meets Try.prog 95 S_s_RunsJoin :=
  meets tok mixed Try.func95 (by kernel_rfl) (l := [(45, S_s_l6In)]) ⟨m_s_l6In, trivial⟩ (ann := [(3, [.slot 4 (.own 3 .int), .slot 5 .int]), (8, [.slot 4 (.own 3 .int), .slot 6 .int])]) v_s_RunsJoin (by kernel_rfl)
def S_i_lengthsIn4 : FSpec where
  args := [.sc (.sl .int)]
  outs := [.sc (.own 3 .int)]
  pre := fun a => match a with
    | [.sc (.sl .int bytes)] => (((bytes).length : Nat) : Int) ≤ 1000 ∧ allIn 0 255 bytes = true
    | _ => False
  post := fun a r => match a, r with
    | [.sc (.sl .int bytes)], [.sc (.sl .int r)] => r = unlens bytes
    | _, _ => False
  kept := false
theorem m_i_lengthsIn4 : Meets Try.prog 70 S_i_lengthsIn4 :=
  meets tok mixed Try.func70 (by kernel_rfl) (l := []) trivial (ann := [(3, [.slot 3 (.own 3 .int), .slot 9 .int])]) v_i_lengthsIn4 (by kernel_rfl)
def S_i_firstBits : FSpec where
  args := [.sc (.sl .int)]
  outs := [.sc (.own 3 .int)]
  pre := fun a => match a with
    | [.sc (.sl .int bytes)] => (((bytes).length : Nat) : Int) ≤ 1099511627776 ∧ allIn 0 255 bytes = true
    | _ => False
  post := fun a r => match a, r with
    | [.sc (.sl .int bytes)], [.sc (.sl .int r)] => r = bitsB (bytes.take 40)
    | _, _ => False
  kept := false
theorem m_i_firstBits : Meets Try.prog 69 S_i_firstBits :=
  meets tok mixed Try.func69 (by kernel_rfl) (l := [(87, S_i_BytesBits)]) ⟨m_i_BytesBits, trivial⟩ (ann := []) v_i_firstBits (by kernel_rfl)
def S_i_listIn : FSpec where
  args := [.sc (.sl .int)]
  outs := [.sc (.sl .int), .sc .bool]
  pre := fun a => match a with
    | [.sc (.sl .int bytes)] => (((bytes).length : Nat) : Int) ≤ 1099511627776 ∧ allIn 0 255 bytes = true ∧ 2 ≤ (((bytes).length : Nat) : Int)
    | _ => False
  post := fun a r => match a, r with
    | [.sc (.sl .int bytes)], [.sc (.sl .int r), .sc (.bool ok)] => ok = (listD bytes).isSome ∧ r = (listD bytes).getD []
    | _, _ => False
  kept := true
theorem m_i_listIn : Meets Try.prog 53 S_i_listIn :=
  meets tok mixed Try.func53 (by kernel_rfl) (l := [(67, S_i_RunsJoin), (68, S_i_PrefixDecode), (69, S_i_firstBits), (70, S_i_lengthsIn4), (71, S_i_TokensExpand)]) ⟨m_i_RunsJoin, m_i_PrefixDecode, m_i_firstBits, m_i_lengthsIn4, m_i_TokensExpand, trivial⟩ (ann := [(10, [.slot 7 (.own 71 .r2), .slot 38 .int]), (27, [.slot 12 (.own 76 .r3), .slot 97 .int])]) v_i_listIn (by kernel_rfl)
def S_i_alike : FSpec where
  args := [.sc (.sl .int), .sc (.sl .int)]
  outs := [.sc .bool]
  pre := fun a => match a with
    | [.sc (.sl .int a), .sc (.sl .int b)] => (((a).length : Nat) : Int) ≤ 1099511627776 ∧ (((b).length : Nat) : Int) ≤ 1099511627776
    | _ => False
  post := fun a r => match a, r with
    | [.sc (.sl .int a), .sc (.sl .int b)], [.sc (.bool r)] => r = decide (a = b)
    | _, _ => False
  kept := false
theorem m_i_alike : Meets Try.prog 38 S_i_alike :=
  meets tok mixed Try.func38 (by kernel_rfl) (l := []) trivial (ann := [(4, [.slot 13 .int])]) v_i_alike (by kernel_rfl)
def S_s_l2Same : FSpec where
  args := [.sc (.sl .int), .sc (.sl .int)]
  outs := [.sc .bool]
  pre := fun a => match a with
    | [.sc (.sl .int a), .sc (.sl .int b)] => (((a).length : Nat) : Int) ≤ 1099511627776 ∧ (((b).length : Nat) : Int) ≤ 1099511627776
    | _ => False
  post := fun a r => match a, r with
    | [.sc (.sl .int a), .sc (.sl .int b)], [.sc (.bool r)] => r = decide (a = b)
    | _, _ => False
  kept := false
theorem m_s_l2Same : Meets Try.prog 35 S_s_l2Same :=
  meets tok mixed Try.func35 (by kernel_rfl) (l := []) trivial (ann := [(4, [.slot 5 .int])]) v_s_l2Same (by kernel_rfl)
def S_i_BlockOpen : FSpec where
  args := [.sc (.sl .int)]
  outs := [.sc (.own 3 .int), .sc .int, .sc .bool]
  pre := fun a => match a with
    | [.sc (.sl .int bytes)] => (((bytes).length : Nat) : Int) ≤ 1099511627776
    | _ => False
  post := fun a r => match a, r with
    | [.sc (.sl .int bytes)], [.sc (.sl .int r), .sc (.int _ n), .sc (.bool ok)] => ok = (openD bytes).isSome ∧ (r, n) = (openD bytes).getD ([], 0)
    | _, _ => False
  kept := false
theorem m_i_BlockOpen : Meets Try.prog 37 S_i_BlockOpen :=
  meets tok mixed Try.func37 (by kernel_rfl) (l := [(36, S_i_bytesOk), (38, S_i_alike), (43, S_i_cloned), (50, S_i_BlockAs), (53, S_i_listIn)]) ⟨m_i_bytesOk, m_i_alike, m_i_cloned, m_i_BlockAs, m_i_listIn, trivial⟩ (ann := []) v_i_BlockOpen (by kernel_rfl)
def S_s_l21OpenRuns : FSpec where
  args := [.sc (.sl .int)]
  outs := [.sc (.own 3 .int), .sc .bool]
  pre := fun a => match a with
    | [.sc (.sl .int bytes)] => (((bytes).length : Nat) : Int) ≤ 1099511627776 ∧ allIn 0 255 bytes = true ∧ 2 ≤ (((bytes).length : Nat) : Int)
    | _ => False
  post := fun a r => match a, r with
    | [.sc (.sl .int bytes)], [.sc (.sl .int r), .sc (.bool ok)] => ok = (joinD (unflat (bytes.getD 1 0).toNat (bytes.drop 2))).isSome ∧ r = (joinD (unflat (bytes.getD 1 0).toNat (bytes.drop 2))).getD []
    | _, _ => False
  kept := false
theorem m_s_l21OpenRuns : Meets Try.prog 84 S_s_l21OpenRuns :=
  meets tok mixed Try.func84 (by kernel_rfl) (l := [(95, S_s_RunsJoin)]) ⟨m_s_RunsJoin, trivial⟩ (ann := [(3, [.slot 4 (.own 71 .r2), .slot 5 .int])]) v_s_l21OpenRuns (by kernel_rfl)
def S_s_l21OpenPrefix : FSpec where
  args := [.sc (.sl .int)]
  outs := [.sc (.own 3 .int), .sc .bool]
  pre := fun a => match a with
    | [.sc (.sl .int bytes)] => (((bytes).length : Nat) : Int) ≤ 1099511627776 ∧ allIn 0 255 bytes = true ∧ 2 ≤ (((bytes).length : Nat) : Int)
    | _ => False
  post := fun a r => match a, r with
    | [.sc (.sl .int bytes)], [.sc (.sl .int r), .sc (.bool ok)] => ok = ((decD (bitsB (((bytes.drop 2).drop 4).take 75)) (unlens ((bytes.drop 2).take 4)) (bytes.getD 1 0)).map fun r => r.1).isSome ∧ r = ((decD (bitsB (((bytes.drop 2).drop 4).take 75)) (unlens ((bytes.drop 2).take 4)) (bytes.getD 1 0)).map fun r => r.1).getD []
    | _, _ => False
  kept := false
theorem m_s_l21OpenPrefix : Meets Try.prog 85 S_s_l21OpenPrefix :=
  meets tok mixed Try.func85 (by kernel_rfl) (l := [(96, S_s_l1Put), (97, S_s_PrefixDecode)]) ⟨m_s_l1Put, m_s_PrefixDecode, trivial⟩ (ann := [(3, [.slot 4 (.own 3 .int), .slot 5 .int]), (8, [.slot 6 (.own 3 .int), .slot 7 .int])]) v_s_l21OpenPrefix (by kernel_rfl)
def S_s_l21OpenTokens : FSpec where
  args := [.sc (.sl .int)]
  outs := [.sc (.own 3 .int), .sc .bool]
  pre := fun a => match a with
    | [.sc (.sl .int bytes)] => (((bytes).length : Nat) : Int) ≤ 1099511627776 ∧ allIn 0 255 bytes = true ∧ 2 ≤ (((bytes).length : Nat) : Int)
    | _ => False
  post := fun a r => match a, r with
    | [.sc (.sl .int bytes)], [.sc (.sl .int r), .sc (.bool ok)] => ok = (expand (((bytes.drop 2).take (bytes.getD 1 0).toNat).map byteTok)).isSome ∧ r = (expand (((bytes.drop 2).take (bytes.getD 1 0).toNat).map byteTok)).getD []
    | _, _ => False
  kept := false
theorem m_s_l21OpenTokens : Meets Try.prog 86 S_s_l21OpenTokens :=
  meets tok mixed Try.func86 (by kernel_rfl) (l := [(98, S_s_TokensExpand)]) ⟨m_s_TokensExpand, trivial⟩ (ann := [(3, [.slot 4 (.own 76 .r3), .slot 5 .int])]) v_s_l21OpenTokens (by kernel_rfl)
def S_s_l21Open : FSpec where
  args := [.sc (.sl .int)]
  outs := [.sc (.own 3 .int), .sc .bool]
  pre := fun a => match a with
    | [.sc (.sl .int bytes)] => (((bytes).length : Nat) : Int) ≤ 1099511627776 ∧ allIn 0 255 bytes = true ∧ 2 ≤ (((bytes).length : Nat) : Int)
    | _ => False
  post := fun a r => match a, r with
    | [.sc (.sl .int bytes)], [.sc (.sl .int r), .sc (.bool ok)] => ok = (listS bytes).isSome ∧ (ok = true → r = (listS bytes).getD [])
    | _, _ => False
  kept := false
theorem m_s_l21Open : Meets Try.prog 66 S_s_l21Open :=
  meets tok mixed Try.func66 (by kernel_rfl) (l := [(84, S_s_l21OpenRuns), (85, S_s_l21OpenPrefix), (86, S_s_l21OpenTokens)]) ⟨m_s_l21OpenRuns, m_s_l21OpenPrefix, m_s_l21OpenTokens, trivial⟩ (ann := []) v_s_l21Open (by kernel_rfl)
def S_s_l21Size : FSpec where
  args := [.sc (.sl .int)]
  outs := [.sc .int]
  pre := fun a => match a with
    | [.sc (.sl .int bytes)] => (((bytes).length : Nat) : Int) ≤ 1099511627776 ∧ allIn 0 255 bytes = true ∧ 2 ≤ (((bytes).length : Nat) : Int)
    | _ => False
  post := fun a r => match a, r with
    | [.sc (.sl .int bytes)], [.sc (.int _ n)] => n = blockLen bytes
    | _, _ => False
  kept := false
theorem m_s_l21Size : Meets Try.prog 65 S_s_l21Size :=
  meets tok mixed Try.func65 (by kernel_rfl) (l := [(35, S_s_l2Same), (58, S_s_BlockAs), (66, S_s_l21Open)]) ⟨m_s_l2Same, m_s_BlockAs, m_s_l21Open, trivial⟩ (ann := []) v_s_l21Size (by kernel_rfl)
def S_s_BlockOpen : FSpec where
  args := [.sc (.sl .int)]
  outs := [.sc (.own 3 .int), .sc .int, .sc .bool]
  pre := fun a => match a with
    | [.sc (.sl .int bytes)] => (((bytes).length : Nat) : Int) ≤ 1099511627776
    | _ => False
  post := fun a r => match a, r with
    | [.sc (.sl .int bytes)], [.sc (.sl .int r), .sc (.int _ n), .sc (.bool ok)] => ok = (openD bytes).isSome ∧ (r, n) = (openD bytes).getD ([], 0)
    | _, _ => False
  kept := false
theorem m_s_BlockOpen : Meets Try.prog 51 S_s_BlockOpen :=
  meets tok mixed Try.func51 (by kernel_rfl) (l := [(33, S_s_l1Bytes), (65, S_s_l21Size), (66, S_s_l21Open)]) ⟨m_s_l1Bytes, m_s_l21Size, m_s_l21Open, trivial⟩ (ann := []) v_s_BlockOpen (by kernel_rfl)
end Go.Proofs.Ytkkgpcbkkahieaa
