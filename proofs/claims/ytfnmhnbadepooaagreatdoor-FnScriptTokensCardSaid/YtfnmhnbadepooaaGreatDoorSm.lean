/-
  Functions meet their contracts: m_bits.
-/
import Derived.Test.YtfnmhnbadepooaaGreatDoorT
import Derived.Test.YtfnmhnbadepooaaGreatDoorVm
import Derived.Test.YtfnmhnbadepooaaGreatDoorSa
set_option linter.unusedVariables false
set_option linter.unusedSimpArgs false
open Go Go.Ax Go.Mx
namespace Go.Proofs.YtfnmhnbadepooaaGreatDoor
def S_i_bitsOk : FSpec where
  args := [.sc (.sl .int)]
  outs := [.sc .bool]
  pre := fun a => match a with
    | [.sc (.sl .int bits)] => (((bits).length : Nat) : Int) ≤ 1099511627776
    | _ => False
  post := fun a r => match a, r with
    | [.sc (.sl .int bits)], [.sc (.bool r)] => r = bitsIn bits
    | _, _ => False
  kept := false
theorem m_i_bitsOk : Meets Tryz.prog 104 S_i_bitsOk :=
  meets tok mixed Tryz.func104 (by kernel_rfl) (l := [(48, S_i_every)]) ⟨m_i_every, trivial⟩ (ann := []) v_i_bitsOk (by kernel_rfl)
def S_s_l1Bits : FSpec where
  args := [.sc (.sl .int)]
  outs := [.sc .bool]
  pre := fun a => match a with
    | [.sc (.sl .int bits)] => (((bits).length : Nat) : Int) ≤ 1099511627776
    | _ => False
  post := fun a r => match a, r with
    | [.sc (.sl .int bits)], [.sc (.bool r)] => r = bitsIn bits
    | _, _ => False
  kept := false
theorem m_s_l1Bits : Meets Tryz.prog 135 S_s_l1Bits :=
  meets tok mixed Tryz.func135 (by kernel_rfl) (l := [(84, S_s_l6In)]) ⟨m_s_l6In, trivial⟩ (ann := [(2, [.slot 3 .int])]) v_s_l1Bits (by kernel_rfl)
def S_s_l1Put : FSpec where
  args := [.sc .int, .sc .int]
  outs := [.sc (.own 3 .int)]
  pre := fun a => match a with
    | [.sc (.int _ n), .sc (.int _ width)] => 0 ≤ n ∧ n ≤ 100000000 ∧ 0 ≤ width ∧ width ≤ 16
    | _ => False
  post := fun a r => match a, r with
    | [.sc (.int _ n), .sc (.int _ width)], [.sc (.sl .int r)] => r = bitsOf width.toNat n
    | _, _ => False
  kept := false
theorem m_s_l1Put : Meets Tryz.prog 134 S_s_l1Put :=
  meets tok mixed Tryz.func134 (by kernel_rfl) (l := []) trivial (ann := [(3, [.slot 0 .int, .slot 6 .int, .arr 5 3 .int])]) v_s_l1Put (by kernel_rfl)
def S_s_l1Get : FSpec where
  args := [.sc (.sl .int)]
  outs := [.sc .int]
  pre := fun a => match a with
    | [.sc (.sl .int bits)] => (((bits).length : Nat) : Int) ≤ 16 ∧ allIn 0 1 bits = true
    | _ => False
  post := fun a r => match a, r with
    | [.sc (.sl .int bits)], [.sc (.int _ n)] => n = numOf bits
    | _, _ => False
  kept := false
theorem m_s_l1Get : Meets Tryz.prog 136 S_s_l1Get :=
  meets tok mixed Tryz.func136 (by kernel_rfl) (l := []) trivial (ann := [(3, [.slot 3 .int, .slot 4 .int])]) v_s_l1Get (by kernel_rfl)
def S_i_BitsPut : FSpec where
  args := [.sc (.sl .int), .sc .int, .sc .int]
  outs := [.sc (.own 3 .int), .sc .bool]
  pre := fun a => match a with
    | [.sc (.sl .int bits), .sc (.int _ n), .sc (.int _ width)] => (((bits).length : Nat) : Int) ≤ 1099511627776
    | _ => False
  post := fun a r => match a, r with
    | [.sc (.sl .int bits), .sc (.int _ n), .sc (.int _ width)], [.sc (.sl .int r), .sc (.bool ok)] => ok = (bitsIn bits && decide (0 ≤ width ∧ width ≤ 16) && decide (0 ≤ n ∧ n ≤ p2 width - 1) && decide (bits.length + width ≤ 600)) ∧ r = (if ok = true then bits ++ bitsOf width.toNat n else [])
    | _, _ => False
  kept := false
theorem m_i_BitsPut : Meets Tryz.prog 103 S_i_BitsPut :=
  meets tok mixed Tryz.func103 (by kernel_rfl) (l := [(72, S_i_within), (101, S_i_cloned), (104, S_i_bitsOk)]) ⟨m_i_within, m_i_cloned, m_i_bitsOk, trivial⟩ (ann := [(5, [.slot 8 (.own 3 .int), .slot 9 .int])]) v_i_BitsPut (by kernel_rfl)
def S_i_BitsBytes : FSpec where
  args := [.sc (.sl .int)]
  outs := [.sc (.own 3 .int), .sc .bool]
  pre := fun a => match a with
    | [.sc (.sl .int bits)] => (((bits).length : Nat) : Int) ≤ 1099511627776
    | _ => False
  post := fun a r => match a, r with
    | [.sc (.sl .int bits)], [.sc (.sl .int r), .sc (.bool ok)] => ok = bitsIn bits ∧ r = (if bitsIn bits = true then bytesOf bits else [])
    | _, _ => False
  kept := false
theorem m_i_BitsBytes : Meets Tryz.prog 76 S_i_BitsBytes :=
  meets tok mixed Tryz.func76 (by kernel_rfl) (l := [(104, S_i_bitsOk)]) ⟨m_i_bitsOk, trivial⟩ (ann := [(5, [.slot 18 .int, .arr 4 3 .int])]) v_i_BitsBytes (by kernel_rfl)
def S_s_BitsBytes : FSpec where
  args := [.sc (.sl .int)]
  outs := [.sc (.own 3 .int), .sc .bool]
  pre := fun a => match a with
    | [.sc (.sl .int bits)] => (((bits).length : Nat) : Int) ≤ 1099511627776
    | _ => False
  post := fun a r => match a, r with
    | [.sc (.sl .int bits)], [.sc (.sl .int r), .sc (.bool ok)] => ok = bitsIn bits ∧ r = (if bitsIn bits = true then bytesOf bits else [])
    | _, _ => False
  kept := false
theorem m_s_BitsBytes : Meets Tryz.prog 125 S_s_BitsBytes :=
  meets tok mixed Tryz.func125 (by kernel_rfl) (l := [(135, S_s_l1Bits), (136, S_s_l1Get)]) ⟨m_s_l1Bits, m_s_l1Get, trivial⟩ (ann := [(4, [.slot 4 (.own 3 .int)]), (8, [.slot 5 (.own 3 .int), .slot 6 .int])]) v_s_BitsBytes (by kernel_rfl)
end Go.Proofs.YtfnmhnbadepooaaGreatDoor
