/-
  Functions meet their contracts: c_piece.
-/
import Derived.Test.YthongcikinnjlaaT
import Derived.Test.YthongcikinnjlaaVc
set_option linter.unusedVariables false
set_option linter.unusedSimpArgs false
open Go Go.Ax Go.Mx
namespace Go.Proofs.Ythongcikinnjlaa
def S_l_toPiece : FSpec where
  args := [.agg [.int, .int, .int]]
  outs := [.agg [.int, .int, .int]]
  pre := fun a => match a with
    | [.agg [.int _ s, .int _ f, .int _ m]] => True
    | _ => False
  post := fun a r => match a, r with
    | [.agg [.int _ s, .int _ f, .int _ m]], [.agg [.int _ s2, .int _ f2, .int _ m2]] => s2 = s ∧ f2 = f ∧ m2 = m
    | _, _ => False
  kept := false
theorem m_l_toPiece : Meets Try.prog 79 S_l_toPiece :=
  meets tok mixed Try.func79 (by kernel_rfl) (l := []) trivial (ann := []) v_l_toPiece (by kernel_rfl)
def S_l_eqPiece : FSpec where
  args := [.agg [.int, .int, .int], .agg [.int, .int, .int]]
  outs := [.sc .bool]
  pre := fun a => match a with
    | [.agg [.int _ s, .int _ f, .int _ m], .agg [.int _ s2, .int _ f2, .int _ m2]] => True
    | _ => False
  post := fun a r => match a, r with
    | [.agg [.int _ s, .int _ f, .int _ m], .agg [.int _ s2, .int _ f2, .int _ m2]], [.sc (.bool r)] => r = decide ((s, f, m) = (s2, f2, m2))
    | _, _ => False
  kept := false
theorem m_l_eqPiece : Meets Try.prog 80 S_l_eqPiece :=
  meets tok mixed Try.func80 (by kernel_rfl) (l := []) trivial (ann := []) v_l_eqPiece (by kernel_rfl)
def S_l_toPieceS : FSpec where
  args := [.sc (.sl .r3)]
  outs := [.sc (.own 49 .r3)]
  pre := fun a => match a with
    | [.sc (.sl .r3 a)] => (((a).length : Nat) : Int) ≤ 1099511627776
    | _ => False
  post := fun a r => match a, r with
    | [.sc (.sl .r3 a)], [.sc (.sl .r3 r)] => r = a
    | _, _ => False
  kept := false
theorem m_l_toPieceS : Meets Try.prog 35 S_l_toPieceS :=
  meets tok mixed Try.func35 (by kernel_rfl) (l := [(79, S_l_toPiece)]) ⟨m_l_toPiece, trivial⟩ (ann := [(3, [.slot 4 .int, .arr 3 49 .r3])]) v_l_toPieceS (by kernel_rfl)
def S_l_szPieceS : FSpec where
  args := [.sc (.sl .r3), .sc .int]
  outs := [.sc .int]
  pre := fun a => match a with
    | [.sc (.sl .r3 a), .sc (.int _ left)] => (((a).length : Nat) : Int) ≤ 9223372036854775807 ∧ 0 ≤ left ∧ left ≤ 1000000000000000000
    | _ => False
  post := fun a r => match a, r with
    | [.sc (.sl .r3 a), .sc (.int _ left)], [.sc (.int _ r)] => r = if left - a.length < 0 then -1 else left - a.length
    | _, _ => False
  kept := false
theorem m_l_szPieceS : Meets Try.prog 32 S_l_szPieceS :=
  meets tok mixed Try.func32 (by kernel_rfl) (l := []) trivial (ann := []) v_l_szPieceS (by kernel_rfl)
def S_l_eqPieceS : FSpec where
  args := [.sc (.sl .r3), .sc (.sl .r3)]
  outs := [.sc .bool]
  pre := fun a => match a with
    | [.sc (.sl .r3 a), .sc (.sl .r3 b)] => (((a).length : Nat) : Int) ≤ 1099511627776 ∧ (((b).length : Nat) : Int) ≤ 1099511627776
    | _ => False
  post := fun a r => match a, r with
    | [.sc (.sl .r3 a), .sc (.sl .r3 b)], [.sc (.bool r)] => r = decide (a = b)
    | _, _ => False
  kept := false
theorem m_l_eqPieceS : Meets Try.prog 38 S_l_eqPieceS :=
  meets tok mixed Try.func38 (by kernel_rfl) (l := [(80, S_l_eqPiece)]) ⟨m_l_eqPiece, trivial⟩ (ann := [(4, [.slot 5 .int])]) v_l_eqPieceS (by kernel_rfl)
def S_l_samePieces : FSpec where
  args := [.sc (.sl .r3), .sc (.sl .r3)]
  outs := [.sc .bool]
  pre := fun a => match a with
    | [.sc (.sl .r3 a), .sc (.sl .r3 b)] => (((a).length : Nat) : Int) ≤ 1099511627776 ∧ (((b).length : Nat) : Int) ≤ 1099511627776
    | _ => False
  post := fun a r => match a, r with
    | [.sc (.sl .r3 a), .sc (.sl .r3 b)], [.sc (.bool r)] => r = decide (a = b)
    | _, _ => False
  kept := false
theorem m_l_samePieces : Meets Try.prog 45 S_l_samePieces :=
  meets tok mixed Try.func45 (by kernel_rfl) (l := []) trivial (ann := [(4, [.slot 5 .int])]) v_l_samePieces (by kernel_rfl)
def S_l_markPieceS : FSpec where
  args := [.sc (.own 49 .r3), .sc .int]
  outs := [.sc .int]
  pre := fun a => match a with
    | [.sc (.sl .r3 a), .sc (.int _ k)] => (((a).length : Nat) : Int) ≤ 1099511627776 ∧ 0 ≤ k ∧ k ≤ 1000000000000000
    | _ => False
  post := fun a r => match a, r with
    | [.sc (.sl .r3 a), .sc (.int _ k)], [.sc (.sl .r3 a'), .sc (.int _ r)] => r = k + 3 * a.length ∧ a' = marks3 k a.length
    | _, _ => False
  kept := false
theorem m_l_markPieceS : Meets Try.prog 42 S_l_markPieceS :=
  meets tok mixed Try.func42 (by kernel_rfl) (l := []) trivial (ann := [(2, [.slot 1 .int, .slot 5 .int, .arr 0 49 .r3])]) v_l_markPieceS (by kernel_rfl)
def S_l_heldPieceS : FSpec where
  args := [.sc (.sl .r3), .sc .int]
  outs := [.sc .int]
  pre := fun a => match a with
    | [.sc (.sl .r3 a), .sc (.int _ k)] => (((a).length : Nat) : Int) ≤ 1099511627776 ∧ 0 ≤ k ∧ k ≤ 1000000000000000
    | _ => False
  post := fun a r => match a, r with
    | [.sc (.sl .r3 a), .sc (.int _ k)], [.sc (.int _ r)] => r = if a = marks3 k a.length then k + 3 * a.length else -1
    | _, _ => False
  kept := false
theorem m_l_heldPieceS : Meets Try.prog 43 S_l_heldPieceS :=
  meets tok mixed Try.func43 (by kernel_rfl) (l := []) trivial (ann := [(2, [.slot 1 .int, .slot 5 .int])]) v_l_heldPieceS (by kernel_rfl)
end Go.Proofs.Ythongcikinnjlaa
