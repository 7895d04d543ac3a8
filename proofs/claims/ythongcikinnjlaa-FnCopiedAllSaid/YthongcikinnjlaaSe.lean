/-
  Functions meet their contracts: e_apply.
-/
import Derived.Test.YthongcikinnjlaaT
import Derived.Test.YthongcikinnjlaaVe
import Derived.Test.YthongcikinnjlaaSa
set_option linter.unusedVariables false
set_option linter.unusedSimpArgs false
open Go Go.Ax Go.Mx
namespace Go.Proofs.Ythongcikinnjlaa
def S_s_l41Piece : FSpec where
  args := [.sc (.sl .int), .agg [.int, .int, .int]]
  outs := [.sc .bool]
  pre := fun a => match a with
    | [.sc (.sl .int old), .agg [.int _ s, .int _ f, .int _ m]] => (((old).length : Nat) : Int) ≤ 1099511627776
    | _ => False
  post := fun a r => match a, r with
    | [.sc (.sl .int old), .agg [.int _ s, .int _ f, .int _ m]], [.sc (.bool r)] => r = pieceOk old.length (s, f, m)
    | _, _ => False
  kept := false
theorem m_s_l41Piece : Meets Try.prog 83 S_s_l41Piece :=
  meets tok mixed Try.func83 (by kernel_rfl) (l := [(75, S_s_l6In)]) ⟨m_s_l6In, trivial⟩ (ann := []) v_s_l41Piece (by kernel_rfl)
def S_s_DeltaApply : FSpec where
  args := [.sc (.sl .int), .sc (.sl .r3)]
  outs := [.sc (.own 3 .int), .sc .bool]
  pre := fun a => match a with
    | [.sc (.sl .int old), .sc (.sl .r3 pieces)] => (((old).length : Nat) : Int) ≤ 1099511627776 ∧ (((pieces).length : Nat) : Int) ≤ 1099511627776
    | _ => False
  post := fun a r => match a, r with
    | [.sc (.sl .int old), .sc (.sl .r3 pieces)], [.sc (.sl .int out), .sc (.bool ok)] => ok = (deltaApply old pieces).isSome ∧ out = (deltaApply old pieces).getD []
    | _, _ => False
  kept := false
theorem m_s_DeltaApply : Meets Try.prog 47 S_s_DeltaApply :=
  meets tok mixed Try.func47 (by kernel_rfl) (l := [(46, S_s_ListValid), (83, S_s_l41Piece)]) ⟨m_s_ListValid, m_s_l41Piece, trivial⟩ (ann := [(5, [.slot 6 (.own 3 .int), .slot 7 .int])]) v_s_DeltaApply (by kernel_rfl)
def S_i_DeltaApply : FSpec where
  args := [.sc (.sl .int), .sc (.sl .r3)]
  outs := [.sc (.own 3 .int), .sc .bool]
  pre := fun a => match a with
    | [.sc (.sl .int old), .sc (.sl .r3 pieces)] => (((old).length : Nat) : Int) ≤ 1099511627776 ∧ (((pieces).length : Nat) : Int) ≤ 1099511627776
    | _ => False
  post := fun a r => match a, r with
    | [.sc (.sl .int old), .sc (.sl .r3 pieces)], [.sc (.sl .int out), .sc (.bool ok)] => ok = (deltaApply old pieces).isSome ∧ out = (deltaApply old pieces).getD []
    | _, _ => False
  kept := false
theorem m_i_DeltaApply : Meets Try.prog 48 S_i_DeltaApply :=
  meets tok mixed Try.func48 (by kernel_rfl) (l := [(65, S_i_ListValid), (74, S_i_within)]) ⟨m_i_ListValid, m_i_within, trivial⟩ (ann := [(5, [.slot 6 (.own 3 .int), .slot 16 .int])]) v_i_DeltaApply (by kernel_rfl)
def S_s_DeltaCopied : FSpec where
  args := [.sc (.sl .int), .sc (.sl .r3)]
  outs := [.sc .int]
  pre := fun a => match a with
    | [.sc (.sl .int old), .sc (.sl .r3 pieces)] => (((old).length : Nat) : Int) ≤ 1099511627776 ∧ (((pieces).length : Nat) : Int) ≤ 1099511627776
    | _ => False
  post := fun a r => match a, r with
    | [.sc (.sl .int old), .sc (.sl .r3 pieces)], [.sc (.int _ r)] => r = copiedD old pieces
    | _, _ => False
  kept := false
theorem m_s_DeltaCopied : Meets Try.prog 33 S_s_DeltaCopied :=
  meets tok mixed Try.func33 (by kernel_rfl) (l := [(47, S_s_DeltaApply)]) ⟨m_s_DeltaApply, trivial⟩ (ann := [(6, [.slot 7 .int, .slot 8 .int])]) v_s_DeltaCopied (by kernel_rfl)
def S_i_DeltaCopied : FSpec where
  args := [.sc (.sl .int), .sc (.sl .r3)]
  outs := [.sc .int]
  pre := fun a => match a with
    | [.sc (.sl .int old), .sc (.sl .r3 pieces)] => (((old).length : Nat) : Int) ≤ 1099511627776 ∧ (((pieces).length : Nat) : Int) ≤ 1099511627776
    | _ => False
  post := fun a r => match a, r with
    | [.sc (.sl .int old), .sc (.sl .r3 pieces)], [.sc (.int _ r)] => r = copiedD old pieces
    | _, _ => False
  kept := false
theorem m_i_DeltaCopied : Meets Try.prog 36 S_i_DeltaCopied :=
  meets tok mixed Try.func36 (by kernel_rfl) (l := [(48, S_i_DeltaApply)]) ⟨m_i_DeltaApply, trivial⟩ (ann := [(6, [.slot 7 .int, .slot 20 .int])]) v_i_DeltaCopied (by kernel_rfl)
end Go.Proofs.Ythongcikinnjlaa
