/-
  Functions meet their contracts: m_bits.
-/
import Derived.Test.YtkkgpcbkkahieaaT
import Derived.Test.YtkkgpcbkkahieaaVm
import Derived.Test.YtkkgpcbkkahieaaSa
set_option linter.unusedVariables false
set_option linter.unusedSimpArgs false
open Go Go.Ax Go.Mx
namespace Go.Proofs.Ytkkgpcbkkahieaa
def S_i_bytesOk : FSpec where
  args := [.sc (.sl .int)]
  outs := [.sc .bool]
  pre := fun a => match a with
    | [.sc (.sl .int list)] => (((list).length : Nat) : Int) ≤ 1099511627776
    | _ => False
  post := fun a r => match a, r with
    | [.sc (.sl .int list)], [.sc (.bool r)] => r = allIn 0 255 list
    | _, _ => False
  kept := false
theorem m_i_bytesOk : Meets Try.prog 36 S_i_bytesOk :=
  meets tok mixed Try.func36 (by kernel_rfl) (l := [(52, S_i_every)]) ⟨m_i_every, trivial⟩ (ann := []) v_i_bytesOk (by kernel_rfl)
def S_s_l1Bytes : FSpec where
  args := [.sc (.sl .int)]
  outs := [.sc .bool]
  pre := fun a => match a with
    | [.sc (.sl .int bytes)] => (((bytes).length : Nat) : Int) ≤ 1099511627776
    | _ => False
  post := fun a r => match a, r with
    | [.sc (.sl .int bytes)], [.sc (.bool r)] => r = allIn 0 255 bytes
    | _, _ => False
  kept := false
theorem m_s_l1Bytes : Meets Try.prog 33 S_s_l1Bytes :=
  meets tok mixed Try.func33 (by kernel_rfl) (l := [(45, S_s_l6In)]) ⟨m_s_l6In, trivial⟩ (ann := [(2, [.slot 3 .int])]) v_s_l1Bytes (by kernel_rfl)
def S_i_bitsOk : FSpec where
  args := [.sc (.sl .int)]
  outs := [.sc .bool]
  pre := fun a => match a with
    | [.sc (.sl .int bits)] => (((bits).length : Nat) : Int) ≤ 1099511627776
    | _ => False
  post := fun a r => match a, r with
    | [.sc (.sl .int bits)], [.sc (.bool r)] => r = bitsIn bits
    | _, _ => False
  kept := false
theorem m_i_bitsOk : Meets Try.prog 81 S_i_bitsOk :=
  meets tok mixed Try.func81 (by kernel_rfl) (l := [(52, S_i_every)]) ⟨m_i_every, trivial⟩ (ann := []) v_i_bitsOk (by kernel_rfl)
def S_s_l1Bits : FSpec where
  args := [.sc (.sl .int)]
  outs := [.sc .bool]
  pre := fun a => match a with
    | [.sc (.sl .int bits)] => (((bits).length : Nat) : Int) ≤ 1099511627776
    | _ => False
  post := fun a r => match a, r with
    | [.sc (.sl .int bits)], [.sc (.bool r)] => r = bitsIn bits
    | _, _ => False
  kept := false
theorem m_s_l1Bits : Meets Try.prog 109 S_s_l1Bits :=
  meets tok mixed Try.func109 (by kernel_rfl) (l := [(45, S_s_l6In)]) ⟨m_s_l6In, trivial⟩ (ann := [(2, [.slot 3 .int])]) v_s_l1Bits (by kernel_rfl)
def S_s_l1Put : FSpec where
  args := [.sc .int, .sc .int]
  outs := [.sc (.own 3 .int)]
  pre := fun a => match a with
    | [.sc (.int _ n), .sc (.int _ width)] => 0 ≤ n ∧ n ≤ 100000000 ∧ 0 ≤ width ∧ width ≤ 16
    | _ => False
  post := fun a r => match a, r with
    | [.sc (.int _ n), .sc (.int _ width)], [.sc (.sl .int r)] => r = bitsOf width.toNat n
    | _, _ => False
  kept := false
theorem m_s_l1Put : Meets Try.prog 96 S_s_l1Put :=
  meets tok mixed Try.func96 (by kernel_rfl) (l := []) trivial (ann := [(3, [.slot 0 .int, .slot 6 .int, .arr 5 3 .int])]) v_s_l1Put (by kernel_rfl)
def S_s_l1Get : FSpec where
  args := [.sc (.sl .int)]
  outs := [.sc .int]
  pre := fun a => match a with
    | [.sc (.sl .int bits)] => (((bits).length : Nat) : Int) ≤ 16 ∧ allIn 0 1 bits = true
    | _ => False
  post := fun a r => match a, r with
    | [.sc (.sl .int bits)], [.sc (.int _ n)] => n = numOf bits
    | _, _ => False
  kept := false
theorem m_s_l1Get : Meets Try.prog 113 S_s_l1Get :=
  meets tok mixed Try.func113 (by kernel_rfl) (l := []) trivial (ann := [(3, [.slot 3 .int, .slot 4 .int])]) v_s_l1Get (by kernel_rfl)
def S_i_BitsPut : FSpec where
  args := [.sc (.sl .int), .sc .int, .sc .int]
  outs := [.sc (.own 3 .int), .sc .bool]
  pre := fun a => match a with
    | [.sc (.sl .int bits), .sc (.int _ n), .sc (.int _ width)] => (((bits).length : Nat) : Int) ≤ 1099511627776
    | _ => False
  post := fun a r => match a, r with
    | [.sc (.sl .int bits), .sc (.int _ n), .sc (.int _ width)], [.sc (.sl .int r), .sc (.bool ok)] => ok = (bitsIn bits && decide (0 ≤ width ∧ width ≤ 16) && decide (0 ≤ n ∧ n ≤ p2 width - 1) && decide (bits.length + width ≤ 600)) ∧ r = (if ok = true then bits ++ bitsOf width.toNat n else [])
    | _, _ => False
  kept := false
theorem m_i_BitsPut : Meets Try.prog 80 S_i_BitsPut :=
  meets tok mixed Try.func80 (by kernel_rfl) (l := [(43, S_i_cloned), (48, S_i_within), (81, S_i_bitsOk)]) ⟨m_i_cloned, m_i_within, m_i_bitsOk, trivial⟩ (ann := [(5, [.slot 8 (.own 3 .int), .slot 9 .int])]) v_i_BitsPut (by kernel_rfl)
def S_i_BitsBytes : FSpec where
  args := [.sc (.sl .int)]
  outs := [.sc (.own 3 .int), .sc .bool]
  pre := fun a => match a with
    | [.sc (.sl .int bits)] => (((bits).length : Nat) : Int) ≤ 1099511627776
    | _ => False
  post := fun a r => match a, r with
    | [.sc (.sl .int bits)], [.sc (.sl .int r), .sc (.bool ok)] => ok = bitsIn bits ∧ r = (if bitsIn bits = true then bytesOf bits else [])
    | _, _ => False
  kept := false
theorem m_i_BitsBytes : Meets Try.prog 63 S_i_BitsBytes :=
  meets tok mixed Try.func63 (by kernel_rfl) (l := [(81, S_i_bitsOk)]) ⟨m_i_bitsOk, trivial⟩ (ann := [(5, [.slot 18 .int, .arr 4 3 .int])]) v_i_BitsBytes (by kernel_rfl)
def S_s_BitsBytes : FSpec where
  args := [.sc (.sl .int)]
  outs := [.sc (.own 3 .int), .sc .bool]
  pre := fun a => match a with
    | [.sc (.sl .int bits)] => (((bits).length : Nat) : Int) ≤ 1099511627776
    | _ => False
  post := fun a r => match a, r with
    | [.sc (.sl .int bits)], [.sc (.sl .int r), .sc (.bool ok)] => ok = bitsIn bits ∧ r = (if bitsIn bits = true then bytesOf bits else [])
    | _, _ => False
  kept := false
theorem m_s_BitsBytes : Meets Try.prog 107 S_s_BitsBytes :=
  meets tok mixed Try.func107 (by kernel_rfl) (l := [(109, S_s_l1Bits), (113, S_s_l1Get)]) ⟨m_s_l1Bits, m_s_l1Get, trivial⟩ (ann := [(4, [.slot 4 (.own 3 .int)]), (8, [.slot 5 (.own 3 .int), .slot 6 .int])]) v_s_BitsBytes (by kernel_rfl)
end Go.Proofs.Ytkkgpcbkkahieaa
