/-
  Functions meet their contracts: f_draw.
-/
import Derived.Test.YthongcikinnjlaaT
import Derived.Test.YthongcikinnjlaaVf
import Derived.Test.YthongcikinnjlaaSb
import Derived.Test.YthongcikinnjlaaSd
set_option linter.unusedVariables false
set_option linter.unusedSimpArgs false
open Go Go.Ax Go.Mx
namespace Go.Proofs.Ythongcikinnjlaa
def S_s_l92Pieces : FSpec where
  args := [.box [.sl .u8, .int]]
  outs := [.sc (.own 3 .int), .sc (.own 49 .r3)]
  pre := fun a => match a with
    | [.agg [.sl .u8 b, .int _ p]] => (((b).length : Nat) : Int) ≤ 1099511627776 ∧ 0 ≤ p ∧ p ≤ 700000000
    | _ => False
  post := fun a r => match a, r with
    | [.agg [.sl .u8 b, .int _ p]], [.agg [.sl .u8 b', .int _ p'], .sc (.sl .int old), .sc (.sl .r3 list)] => b = b' ∧ p ≤ p' ∧ p' ≤ p + 40000 ∧ (((old).length : Nat) : Int) ≤ 400 ∧ (((list).length : Nat) : Int) ≤ 80
    | _, _ => False
  kept := true
theorem m_s_l92Pieces : Meets Try.prog 97 S_s_l92Pieces :=
  meets tok mixed Try.func97 (by kernel_rfl) (l := [(39, S_s_DeltaOf), (82, S_s_l92Pair), (99, S_s_pick)]) ⟨m_s_DeltaOf, m_s_l92Pair, m_s_pick, trivial⟩ (ann := []) v_s_l92Pieces (by kernel_rfl)
def S_s_DrawDeltaApply : FSpec where
  args := [.sc (.sl .u8)]
  outs := [.sc (.own 3 .int), .sc (.own 49 .r3)]
  pre := fun a => match a with
    | [.sc (.sl .u8 code)] => (((code).length : Nat) : Int) ≤ 1099511627776
    | _ => False
  post := fun a r => match a, r with
    | [.sc (.sl .u8 code)], [.sc (.sl .int old), .sc (.sl .r3 list)] => (((old).length : Nat) : Int) ≤ 400 ∧ (((list).length : Nat) : Int) ≤ 80
    | _, _ => False
  kept := false
theorem m_s_DrawDeltaApply : Meets Try.prog 64 S_s_DrawDeltaApply :=
  meets tok mixed Try.func64 (by kernel_rfl) (l := [(73, S_s_l6Open), (97, S_s_l92Pieces)]) ⟨m_s_l6Open, m_s_l92Pieces, trivial⟩ (ann := []) v_s_DrawDeltaApply (by kernel_rfl)
def S_s_DrawDeltaCopied : FSpec where
  args := [.sc (.sl .u8)]
  outs := [.sc (.own 3 .int), .sc (.own 49 .r3)]
  pre := fun a => match a with
    | [.sc (.sl .u8 code)] => (((code).length : Nat) : Int) ≤ 1099511627776
    | _ => False
  post := fun a r => match a, r with
    | [.sc (.sl .u8 code)], [.sc (.sl .int old), .sc (.sl .r3 list)] => (((old).length : Nat) : Int) ≤ 400 ∧ (((list).length : Nat) : Int) ≤ 80
    | _, _ => False
  kept := false
theorem m_s_DrawDeltaCopied : Meets Try.prog 66 S_s_DrawDeltaCopied :=
  meets tok mixed Try.func66 (by kernel_rfl) (l := [(73, S_s_l6Open), (97, S_s_l92Pieces)]) ⟨m_s_l6Open, m_s_l92Pieces, trivial⟩ (ann := []) v_s_DrawDeltaCopied (by kernel_rfl)
def S_l_sameInts : FSpec where
  args := [.sc (.sl .int), .sc (.sl .int)]
  outs := [.sc .bool]
  pre := fun a => match a with
    | [.sc (.sl .int a), .sc (.sl .int b)] => (((a).length : Nat) : Int) ≤ 1099511627776 ∧ (((b).length : Nat) : Int) ≤ 1099511627776
    | _ => False
  post := fun a r => match a, r with
    | [.sc (.sl .int a), .sc (.sl .int b)], [.sc (.bool r)] => r = decide (a = b)
    | _, _ => False
  kept := false
theorem m_l_sameInts : Meets Try.prog 61 S_l_sameInts :=
  meets tok mixed Try.func61 (by kernel_rfl) (l := []) trivial (ann := [(4, [.slot 5 .int])]) v_l_sameInts (by kernel_rfl)
end Go.Proofs.Ythongcikinnjlaa
