/-
  Functions meet their contracts: n_prefix.
-/
import Derived.Test.YtmfamcaiimhaeaaT
import Derived.Test.YtmfamcaiimhaeaaVn
import Derived.Test.YtmfamcaiimhaeaaSa
import Derived.Test.YtmfamcaiimhaeaaSj
import Derived.Test.YtmfamcaiimhaeaaSk
import Derived.Test.YtmfamcaiimhaeaaSl
import Derived.Test.YtmfamcaiimhaeaaSm
set_option linter.unusedVariables false
set_option linter.unusedSimpArgs false
open Go Go.Ax Go.Mx
namespace Go.Proofs.Ytmfamcaiimhaeaa
def S_i_PrefixEncode : FSpec where
  args := [.sc (.sl .int), .sc (.sl .int)]
  outs := [.sc (.own 3 .int), .sc .bool]
  pre := fun a => match a with
    | [.sc (.sl .int list), .sc (.sl .int lengths)] => (((list).length : Nat) : Int) ≤ 1099511627776 ∧ (((lengths).length : Nat) : Int) ≤ 1099511627776
    | _ => False
  post := fun a r => match a, r with
    | [.sc (.sl .int list), .sc (.sl .int lengths)], [.sc (.sl .int r), .sc (.bool ok)] => ok = (encD list lengths).isSome ∧ r = (encD list lengths).getD []
    | _, _ => False
  kept := false
theorem m_i_PrefixEncode : Meets Try.prog 72 S_i_PrefixEncode :=
  meets tok mixed Try.func72 (by kernel_rfl) (l := [(63, S_i_ListValid), (94, S_i_CodesOf), (95, S_i_BitsPut)]) ⟨m_i_ListValid, m_i_CodesOf, m_i_BitsPut, trivial⟩ (ann := [(6, [.slot 7 (.own 3 .int), .slot 26 .int])]) v_i_PrefixEncode (by kernel_rfl)
def S_s_PrefixEncode : FSpec where
  args := [.sc (.sl .int), .sc (.sl .int)]
  outs := [.sc (.own 3 .int), .sc .bool]
  pre := fun a => match a with
    | [.sc (.sl .int list), .sc (.sl .int lengths)] => (((list).length : Nat) : Int) ≤ 1099511627776 ∧ (((lengths).length : Nat) : Int) ≤ 1099511627776
    | _ => False
  post := fun a r => match a, r with
    | [.sc (.sl .int list), .sc (.sl .int lengths)], [.sc (.sl .int r), .sc (.bool ok)] => ok = (encD list lengths).isSome ∧ r = (encD list lengths).getD []
    | _, _ => False
  kept := false
theorem m_s_PrefixEncode : Meets Try.prog 116 S_s_PrefixEncode :=
  meets tok mixed Try.func116 (by kernel_rfl) (l := [(65, S_s_ListValid), (131, S_s_LengthsValid), (132, S_s_CodesOf), (133, S_s_l1Put)]) ⟨m_s_ListValid, m_s_LengthsValid, m_s_CodesOf, m_s_l1Put, trivial⟩ (ann := [(6, [.slot 6 (.own 3 .int), .slot 8 .int])]) v_s_PrefixEncode (by kernel_rfl)
def S_i_BitsGet : FSpec where
  args := [.sc (.sl .int), .sc .int, .sc .int]
  outs := [.sc .int, .sc .bool]
  pre := fun a => match a with
    | [.sc (.sl .int bits), .sc (.int _ at_), .sc (.int _ width)] => (((bits).length : Nat) : Int) ≤ 1099511627776
    | _ => False
  post := fun a r => match a, r with
    | [.sc (.sl .int bits), .sc (.int _ at_), .sc (.int _ width)], [.sc (.int _ n), .sc (.bool ok)] => ok = (bitsIn bits && decide (0 ≤ width ∧ width ≤ 16) && decide (0 ≤ at_ ∧ at_ ≤ bits.length) && decide (width ≤ bits.length - at_)) ∧ n = (if ok = true then numOf ((bits.drop at_.toNat).take width.toNat) else 0)
    | _, _ => False
  kept := false
theorem m_i_BitsGet : Meets Try.prog 137 S_i_BitsGet :=
  meets tok mixed Try.func137 (by kernel_rfl) (l := [(62, S_i_within), (96, S_i_bitsOk)]) ⟨m_i_within, m_i_bitsOk, trivial⟩ (ann := [(5, [.slot 8 .int, .slot 41 .int])]) v_i_BitsGet (by kernel_rfl)
def S_i_symbolAt : FSpec where
  args := [.sc (.sl .int), .sc .int, .sc (.sl .int), .sc (.sl .int)]
  outs := [.sc .int]
  pre := fun a => match a with
    | [.sc (.sl .int bits), .sc (.int _ at_), .sc (.sl .int lengths), .sc (.sl .int codes)] => bitsIn bits = true ∧ lensOk lengths = true ∧ codes = codesD lengths ∧ 0 ≤ at_ ∧ at_ ≤ bits.length
    | _ => False
  post := fun a r => match a, r with
    | [.sc (.sl .int bits), .sc (.int _ at_), .sc (.sl .int lengths), .sc (.sl .int codes)], [.sc (.int _ r)] => r = symAt lengths bits at_
    | _, _ => False
  kept := false
theorem m_i_symbolAt : Meets Try.prog 120 S_i_symbolAt :=
  meets tok mixed Try.func120 (by kernel_rfl) (l := [(137, S_i_BitsGet)]) ⟨m_i_BitsGet, trivial⟩ (ann := [(2, [.slot 15 .int])]) v_i_symbolAt (by kernel_rfl)
def S_i_PrefixDecode : FSpec where
  args := [.sc (.sl .int), .sc (.sl .int), .sc .int]
  outs := [.sc (.own 3 .int), .sc .int, .sc .bool]
  pre := fun a => match a with
    | [.sc (.sl .int bits), .sc (.sl .int lengths), .sc (.int _ many)] => (((bits).length : Nat) : Int) ≤ 1099511627776 ∧ (((lengths).length : Nat) : Int) ≤ 1099511627776
    | _ => False
  post := fun a r => match a, r with
    | [.sc (.sl .int bits), .sc (.sl .int lengths), .sc (.int _ many)], [.sc (.sl .int r), .sc (.int _ n), .sc (.bool ok)] => ok = (decD bits lengths many).isSome ∧ (r, n) = (decD bits lengths many).getD ([], 0)
    | _, _ => False
  kept := false
theorem m_i_PrefixDecode : Meets Try.prog 107 S_i_PrefixDecode :=
  meets tok mixed Try.func107 (by kernel_rfl) (l := [(62, S_i_within), (94, S_i_CodesOf), (96, S_i_bitsOk), (120, S_i_symbolAt)]) ⟨m_i_within, m_i_CodesOf, m_i_bitsOk, m_i_symbolAt, trivial⟩ (ann := [(7, [.slot 10 (.own 3 .int), .slot 11 .int, .slot 31 .int])]) v_i_PrefixDecode (by kernel_rfl)
def S_s_l12Symbol : FSpec where
  args := [.sc (.sl .int), .sc .int, .sc (.sl .int), .sc (.sl .int)]
  outs := [.sc .int]
  pre := fun a => match a with
    | [.sc (.sl .int bits), .sc (.int _ at_), .sc (.sl .int lengths), .sc (.sl .int codes)] => bitsIn bits = true ∧ lensOk lengths = true ∧ codes = codesD lengths ∧ 0 ≤ at_ ∧ at_ ≤ bits.length
    | _ => False
  post := fun a r => match a, r with
    | [.sc (.sl .int bits), .sc (.int _ at_), .sc (.sl .int lengths), .sc (.sl .int codes)], [.sc (.int _ r)] => r = symAt lengths bits at_
    | _, _ => False
  kept := false
theorem m_s_l12Symbol : Meets Try.prog 144 S_s_l12Symbol :=
  meets tok mixed Try.func144 (by kernel_rfl) (l := [(135, S_s_l1Get)]) ⟨m_s_l1Get, trivial⟩ (ann := [(2, [.slot 9 .int])]) v_s_l12Symbol (by kernel_rfl)
def S_s_PrefixDecode : FSpec where
  args := [.sc (.sl .int), .sc (.sl .int), .sc .int]
  outs := [.sc (.own 3 .int), .sc .int, .sc .bool]
  pre := fun a => match a with
    | [.sc (.sl .int bits), .sc (.sl .int lengths), .sc (.int _ many)] => (((bits).length : Nat) : Int) ≤ 1099511627776 ∧ (((lengths).length : Nat) : Int) ≤ 1099511627776
    | _ => False
  post := fun a r => match a, r with
    | [.sc (.sl .int bits), .sc (.sl .int lengths), .sc (.int _ many)], [.sc (.sl .int r), .sc (.int _ n), .sc (.bool ok)] => ok = (decD bits lengths many).isSome ∧ (r, n) = (decD bits lengths many).getD ([], 0)
    | _, _ => False
  kept := false
theorem m_s_PrefixDecode : Meets Try.prog 139 S_s_PrefixDecode :=
  meets tok mixed Try.func139 (by kernel_rfl) (l := [(64, S_s_l6In), (131, S_s_LengthsValid), (132, S_s_CodesOf), (134, S_s_l1Bits), (144, S_s_l12Symbol)]) ⟨m_s_l6In, m_s_LengthsValid, m_s_CodesOf, m_s_l1Bits, m_s_l12Symbol, trivial⟩ (ann := [(7, [.slot 9 (.own 3 .int), .slot 11 .int, .slot 12 .int])]) v_s_PrefixDecode (by kernel_rfl)
def S_i_BytesBits : FSpec where
  args := [.sc (.sl .int)]
  outs := [.sc (.own 3 .int), .sc .bool]
  pre := fun a => match a with
    | [.sc (.sl .int bytes)] => (((bytes).length : Nat) : Int) ≤ 1099511627776
    | _ => False
  post := fun a r => match a, r with
    | [.sc (.sl .int bytes)], [.sc (.sl .int r), .sc (.bool ok)] => ok = (allIn 0 255 bytes && decide (8 * (((bytes).length : Nat) : Int) ≤ 600)) ∧ r = (if ok = true then bitsB bytes else [])
    | _, _ => False
  kept := false
theorem m_i_BytesBits : Meets Try.prog 121 S_i_BytesBits :=
  meets tok mixed Try.func121 (by kernel_rfl) (l := [(81, S_i_bytesOk)]) ⟨m_i_bytesOk, trivial⟩ (ann := [(5, [.slot 4 (.own 3 .int), .slot 21 .int]), (8, [.slot 4 (.own 3 .int), .slot 7 .int])]) v_i_BytesBits (by kernel_rfl)
def S_i_LengthsCost : FSpec where
  args := [.sc (.sl .int), .sc (.sl .int)]
  outs := [.sc .int]
  pre := fun a => match a with
    | [.sc (.sl .int counts), .sc (.sl .int lengths)] => (((counts).length : Nat) : Int) ≤ 1099511627776 ∧ (((lengths).length : Nat) : Int) ≤ 1099511627776
    | _ => False
  post := fun a r => match a, r with
    | [.sc (.sl .int counts), .sc (.sl .int lengths)], [.sc (.int _ n)] => cntOk counts = true → lensOk lengths = true → usedOk counts lengths = true → n = costL counts lengths
    | _, _ => False
  kept := false
theorem m_i_LengthsCost : Meets Try.prog 76 S_i_LengthsCost :=
  meets tok mixed Try.func76 (by kernel_rfl) (l := [(91, S_i_CountsValid), (98, S_i_LengthsValid)]) ⟨m_i_CountsValid, m_i_LengthsValid, trivial⟩ (ann := [(5, [.slot 5 .int, .slot 18 .int])]) v_i_LengthsCost (by kernel_rfl)
def S_i_PrefixBits : FSpec where
  args := [.sc (.sl .int)]
  outs := [.sc .int]
  pre := fun a => match a with
    | [.sc (.sl .int list)] => (((list).length : Nat) : Int) ≤ 1099511627776
    | _ => False
  post := fun a r => match a, r with
    | [.sc (.sl .int list)], [.sc (.int _ n)] => LV list = true → 0 < (((list).length : Nat) : Int) → n = (((enc (lensF list) list).length : Nat) : Int)
    | _, _ => False
  kept := false
theorem m_i_PrefixBits : Meets Try.prog 46 S_i_PrefixBits :=
  meets tok mixed Try.func46 (by kernel_rfl) (l := [(63, S_i_ListValid), (70, S_i_LengthsOf), (71, S_i_countsOf), (76, S_i_LengthsCost)]) ⟨m_i_ListValid, m_i_LengthsOf, m_i_countsOf, m_i_LengthsCost, trivial⟩ (ann := []) v_i_PrefixBits (by kernel_rfl)
end Go.Proofs.Ytmfamcaiimhaeaa
