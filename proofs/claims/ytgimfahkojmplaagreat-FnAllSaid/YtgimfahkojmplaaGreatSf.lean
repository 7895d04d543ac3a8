/-
  Functions meet their contracts: f_draw.
-/
import Derived.Test.YtgimfahkojmplaaGreatT
import Derived.Test.YtgimfahkojmplaaGreatVf
set_option linter.unusedVariables false
set_option linter.unusedSimpArgs false
open Go Go.Ax Go.Mx
namespace Go.Proofs.YtgimfahkojmplaaGreat
def S_l_sameInts : FSpec where
  args := [.sc (.sl .int), .sc (.sl .int)]
  outs := [.sc .bool]
  pre := fun a => match a with
    | [.sc (.sl .int a), .sc (.sl .int b)] => (((a).length : Nat) : Int) ≤ 1099511627776 ∧ (((b).length : Nat) : Int) ≤ 1099511627776
    | _ => False
  post := fun a r => match a, r with
    | [.sc (.sl .int a), .sc (.sl .int b)], [.sc (.bool r)] => r = decide (a = b)
    | _, _ => False
  kept := false
theorem m_l_sameInts : Meets Tryz.prog 9 S_l_sameInts :=
  meets tok mixed Tryz.func9 (by kernel_rfl) (l := []) trivial (ann := [(4, [.slot 5 .int])]) v_l_sameInts (by kernel_rfl)
end Go.Proofs.YtgimfahkojmplaaGreat
