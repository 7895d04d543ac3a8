/-
  Functions meet their contracts: s_arch.
-/
import Derived.Test.YtgimfahkojmplaaGreatT
import Derived.Test.YtgimfahkojmplaaGreatVs
import Derived.Test.YtgimfahkojmplaaGreatSb
set_option linter.unusedVariables false
set_option linter.unusedSimpArgs false
open Go Go.Ax Go.Mx
namespace Go.Proofs.YtgimfahkojmplaaGreat
def S_s_l92Damage : FSpec where
  args := [.box [.sl .u8, .int], .sc (.sl .int)]
  outs := [.sc (.sl .int)]
  pre := fun a => match a with
    | [.agg [.sl .u8 b, .int _ p], .sc (.sl .int list)] => (((b).length : Nat) : Int) ≤ 1099511627776 ∧ 0 ≤ p ∧ p ≤ 900000000 ∧ (((list).length : Nat) : Int) ≤ 5000
    | _ => False
  post := fun a r => match a, r with
    | [.agg [.sl .u8 b, .int _ p], .sc (.sl .int list)], [.agg [.sl .u8 b', .int _ p'], .sc (.sl .int out)] => b = b' ∧ p ≤ p' ∧ p' ≤ p + 10 ∧ (((out).length : Nat) : Int) ≤ 5001
    | _, _ => False
  kept := true
theorem m_s_l92Damage : Meets Tryz.prog 18 S_s_l92Damage :=
  meets tok mixed Tryz.func18 (by kernel_rfl) (l := [(27, S_s_pick)]) ⟨m_s_pick, trivial⟩ (ann := []) v_s_l92Damage (by kernel_rfl)
end Go.Proofs.YtgimfahkojmplaaGreat
