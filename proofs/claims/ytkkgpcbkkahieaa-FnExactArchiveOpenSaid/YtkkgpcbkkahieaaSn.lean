/-
  Functions meet their contracts: n_prefix.
-/
import Derived.Test.YtkkgpcbkkahieaaT
import Derived.Test.YtkkgpcbkkahieaaVn
import Derived.Test.YtkkgpcbkkahieaaSa
import Derived.Test.YtkkgpcbkkahieaaSl
import Derived.Test.YtkkgpcbkkahieaaSm
set_option linter.unusedVariables false
set_option linter.unusedSimpArgs false
open Go Go.Ax Go.Mx
namespace Go.Proofs.Ytkkgpcbkkahieaa
def S_i_PrefixEncode : FSpec where
  args := [.sc (.sl .int), .sc (.sl .int)]
  outs := [.sc (.own 3 .int), .sc .bool]
  pre := fun a => match a with
    | [.sc (.sl .int list), .sc (.sl .int lengths)] => (((list).length : Nat) : Int) ≤ 1099511627776 ∧ (((lengths).length : Nat) : Int) ≤ 1099511627776
    | _ => False
  post := fun a r => match a, r with
    | [.sc (.sl .int list), .sc (.sl .int lengths)], [.sc (.sl .int r), .sc (.bool ok)] => ok = (encD list lengths).isSome ∧ r = (encD list lengths).getD []
    | _, _ => False
  kept := false
theorem m_i_PrefixEncode : Meets Try.prog 62 S_i_PrefixEncode :=
  meets tok mixed Try.func62 (by kernel_rfl) (l := [(49, S_i_ListValid), (74, S_i_CodesOf), (80, S_i_BitsPut)]) ⟨m_i_ListValid, m_i_CodesOf, m_i_BitsPut, trivial⟩ (ann := [(6, [.slot 7 (.own 3 .int), .slot 26 .int])]) v_i_PrefixEncode (by kernel_rfl)
def S_s_PrefixEncode : FSpec where
  args := [.sc (.sl .int), .sc (.sl .int)]
  outs := [.sc (.own 3 .int), .sc .bool]
  pre := fun a => match a with
    | [.sc (.sl .int list), .sc (.sl .int lengths)] => (((list).length : Nat) : Int) ≤ 1099511627776 ∧ (((lengths).length : Nat) : Int) ≤ 1099511627776
    | _ => False
  post := fun a r => match a, r with
    | [.sc (.sl .int list), .sc (.sl .int lengths)], [.sc (.sl .int r), .sc (.bool ok)] => ok = (encD list lengths).isSome ∧ r = (encD list lengths).getD []
    | _, _ => False
  kept := false
theorem m_s_PrefixEncode : Meets Try.prog 106 S_s_PrefixEncode :=
  meets tok mixed Try.func106 (by kernel_rfl) (l := [(46, S_s_ListValid), (96, S_s_l1Put), (99, S_s_LengthsValid), (100, S_s_CodesOf)]) ⟨m_s_ListValid, m_s_l1Put, m_s_LengthsValid, m_s_CodesOf, trivial⟩ (ann := [(6, [.slot 6 (.own 3 .int), .slot 8 .int])]) v_s_PrefixEncode (by kernel_rfl)
def S_i_BitsGet : FSpec where
  args := [.sc (.sl .int), .sc .int, .sc .int]
  outs := [.sc .int, .sc .bool]
  pre := fun a => match a with
    | [.sc (.sl .int bits), .sc (.int _ at_), .sc (.int _ width)] => (((bits).length : Nat) : Int) ≤ 1099511627776
    | _ => False
  post := fun a r => match a, r with
    | [.sc (.sl .int bits), .sc (.int _ at_), .sc (.int _ width)], [.sc (.int _ n), .sc (.bool ok)] => ok = (bitsIn bits && decide (0 ≤ width ∧ width ≤ 16) && decide (0 ≤ at_ ∧ at_ ≤ bits.length) && decide (width ≤ bits.length - at_)) ∧ n = (if ok = true then numOf ((bits.drop at_.toNat).take width.toNat) else 0)
    | _, _ => False
  kept := false
theorem m_i_BitsGet : Meets Try.prog 90 S_i_BitsGet :=
  meets tok mixed Try.func90 (by kernel_rfl) (l := [(48, S_i_within), (81, S_i_bitsOk)]) ⟨m_i_within, m_i_bitsOk, trivial⟩ (ann := [(5, [.slot 8 .int, .slot 41 .int])]) v_i_BitsGet (by kernel_rfl)
def S_i_symbolAt : FSpec where
  args := [.sc (.sl .int), .sc .int, .sc (.sl .int), .sc (.sl .int)]
  outs := [.sc .int]
  pre := fun a => match a with
    | [.sc (.sl .int bits), .sc (.int _ at_), .sc (.sl .int lengths), .sc (.sl .int codes)] => bitsIn bits = true ∧ lensOk lengths = true ∧ codes = codesD lengths ∧ 0 ≤ at_ ∧ at_ ≤ bits.length
    | _ => False
  post := fun a r => match a, r with
    | [.sc (.sl .int bits), .sc (.int _ at_), .sc (.sl .int lengths), .sc (.sl .int codes)], [.sc (.int _ r)] => r = symAt lengths bits at_
    | _, _ => False
  kept := false
theorem m_i_symbolAt : Meets Try.prog 75 S_i_symbolAt :=
  meets tok mixed Try.func75 (by kernel_rfl) (l := [(90, S_i_BitsGet)]) ⟨m_i_BitsGet, trivial⟩ (ann := [(2, [.slot 15 .int])]) v_i_symbolAt (by kernel_rfl)
def S_i_PrefixDecode : FSpec where
  args := [.sc (.sl .int), .sc (.sl .int), .sc .int]
  outs := [.sc (.own 3 .int), .sc .int, .sc .bool]
  pre := fun a => match a with
    | [.sc (.sl .int bits), .sc (.sl .int lengths), .sc (.int _ many)] => (((bits).length : Nat) : Int) ≤ 1099511627776 ∧ (((lengths).length : Nat) : Int) ≤ 1099511627776
    | _ => False
  post := fun a r => match a, r with
    | [.sc (.sl .int bits), .sc (.sl .int lengths), .sc (.int _ many)], [.sc (.sl .int r), .sc (.int _ n), .sc (.bool ok)] => ok = (decD bits lengths many).isSome ∧ (r, n) = (decD bits lengths many).getD ([], 0)
    | _, _ => False
  kept := false
theorem m_i_PrefixDecode : Meets Try.prog 68 S_i_PrefixDecode :=
  meets tok mixed Try.func68 (by kernel_rfl) (l := [(48, S_i_within), (74, S_i_CodesOf), (75, S_i_symbolAt), (81, S_i_bitsOk)]) ⟨m_i_within, m_i_CodesOf, m_i_symbolAt, m_i_bitsOk, trivial⟩ (ann := [(7, [.slot 10 (.own 3 .int), .slot 11 .int, .slot 31 .int])]) v_i_PrefixDecode (by kernel_rfl)
def S_s_l12Symbol : FSpec where
  args := [.sc (.sl .int), .sc .int, .sc (.sl .int), .sc (.sl .int)]
  outs := [.sc .int]
  pre := fun a => match a with
    | [.sc (.sl .int bits), .sc (.int _ at_), .sc (.sl .int lengths), .sc (.sl .int codes)] => bitsIn bits = true ∧ lensOk lengths = true ∧ codes = codesD lengths ∧ 0 ≤ at_ ∧ at_ ≤ bits.length
    | _ => False
  post := fun a r => match a, r with
    | [.sc (.sl .int bits), .sc (.int _ at_), .sc (.sl .int lengths), .sc (.sl .int codes)], [.sc (.int _ r)] => r = symAt lengths bits at_
    | _, _ => False
  kept := false
theorem m_s_l12Symbol : Meets Try.prog 101 S_s_l12Symbol :=
  meets tok mixed Try.func101 (by kernel_rfl) (l := [(113, S_s_l1Get)]) ⟨m_s_l1Get, trivial⟩ (ann := [(2, [.slot 9 .int])]) v_s_l12Symbol (by kernel_rfl)
def S_s_PrefixDecode : FSpec where
  args := [.sc (.sl .int), .sc (.sl .int), .sc .int]
  outs := [.sc (.own 3 .int), .sc .int, .sc .bool]
  pre := fun a => match a with
    | [.sc (.sl .int bits), .sc (.sl .int lengths), .sc (.int _ many)] => (((bits).length : Nat) : Int) ≤ 1099511627776 ∧ (((lengths).length : Nat) : Int) ≤ 1099511627776
    | _ => False
  post := fun a r => match a, r with
    | [.sc (.sl .int bits), .sc (.sl .int lengths), .sc (.int _ many)], [.sc (.sl .int r), .sc (.int _ n), .sc (.bool ok)] => ok = (decD bits lengths many).isSome ∧ (r, n) = (decD bits lengths many).getD ([], 0)
    | _, _ => False
  kept := false
theorem m_s_PrefixDecode : Meets Try.prog 97 S_s_PrefixDecode :=
  meets tok mixed Try.func97 (by kernel_rfl) (l := [(45, S_s_l6In), (99, S_s_LengthsValid), (100, S_s_CodesOf), (101, S_s_l12Symbol), (109, S_s_l1Bits)]) ⟨m_s_l6In, m_s_LengthsValid, m_s_CodesOf, m_s_l12Symbol, m_s_l1Bits, trivial⟩ (ann := [(7, [.slot 9 (.own 3 .int), .slot 11 .int, .slot 12 .int])]) v_s_PrefixDecode (by kernel_rfl)
def S_i_BytesBits : FSpec where
  args := [.sc (.sl .int)]
  outs := [.sc (.own 3 .int), .sc .bool]
  pre := fun a => match a with
    | [.sc (.sl .int bytes)] => (((bytes).length : Nat) : Int) ≤ 1099511627776
    | _ => False
  post := fun a r => match a, r with
    | [.sc (.sl .int bytes)], [.sc (.sl .int r), .sc (.bool ok)] => ok = (allIn 0 255 bytes && decide (8 * (((bytes).length : Nat) : Int) ≤ 600)) ∧ r = (if ok = true then bitsB bytes else [])
    | _, _ => False
  kept := false
theorem m_i_BytesBits : Meets Try.prog 87 S_i_BytesBits :=
  meets tok mixed Try.func87 (by kernel_rfl) (l := [(36, S_i_bytesOk)]) ⟨m_i_bytesOk, trivial⟩ (ann := [(5, [.slot 4 (.own 3 .int), .slot 21 .int]), (8, [.slot 4 (.own 3 .int), .slot 7 .int])]) v_i_BytesBits (by kernel_rfl)
end Go.Proofs.Ytkkgpcbkkahieaa
