/-
  Functions meet their contracts: x_exact.
-/
import Derived.Test.YtkkgpcbkkahieaaT
import Derived.Test.YtkkgpcbkkahieaaVx
import Derived.Test.YtkkgpcbkkahieaaSa
import Derived.Test.YtkkgpcbkkahieaaSi
set_option linter.unusedVariables false
set_option linter.unusedSimpArgs false
open Go Go.Ax Go.Mx
namespace Go.Proofs.Ytkkgpcbkkahieaa
def S_l_toStream : FSpec where
  args := [.agg [.sl .int, .sl .int, .bool]]
  outs := [.agg [.own 3 .int, .own 3 .int, .bool]]
  pre := fun a => match a with
    | [.agg [.sl .int w, .sl .int t, .bool bad]] => (((w).length : Nat) : Int) ≤ 1099511627776 ∧ (((t).length : Nat) : Int) ≤ 1099511627776
    | _ => False
  post := fun a r => match a, r with
    | [.agg [.sl .int w, .sl .int t, .bool bad]], [.agg [.sl .int w2, .sl .int t2, .bool bad2]] => w2 = w ∧ t2 = t ∧ bad2 = bad
    | _, _ => False
  kept := false
  chk := fun a r => match a, r with
    | [.agg [.sl .int w, .sl .int t, .bool bad]], [.agg [.sl .int w2, .sl .int t2, .bool bad2]] => bif bad then bad2 else !bad2
    | _, _ => true
theorem m_l_toStream : Meets Try.prog 21 S_l_toStream :=
  meets tok mixed Try.func21 (by kernel_rfl) (l := [(16, S_l_toIntS)]) ⟨m_l_toIntS, trivial⟩ (ann := []) v_l_toStream (by kernel_rfl)
def S_l_szStream : FSpec where
  args := [.agg [.sl .int, .sl .int, .bool], .sc .int]
  outs := [.sc .int]
  pre := fun a => match a with
    | [.agg [.sl .int w, .sl .int t, .bool bad], .sc (.int _ left)] => (((w).length : Nat) : Int) ≤ 9223372036854775807 ∧ (((t).length : Nat) : Int) ≤ 9223372036854775807 ∧ 0 ≤ left ∧ left ≤ 1048576
    | _ => False
  post := fun a r => match a, r with
    | [.agg [.sl .int w, .sl .int t, .bool bad], .sc (.int _ left)], [.sc (.int _ r)] => r ≤ left ∧ (0 ≤ r → (((w).length : Nat) : Int) + (((t).length : Nat) : Int) ≤ left)
    | _, _ => False
  kept := false
theorem m_l_szStream : Meets Try.prog 19 S_l_szStream :=
  meets tok mixed Try.func19 (by kernel_rfl) (l := [(39, S_l_szIntS)]) ⟨m_l_szIntS, trivial⟩ (ann := []) v_l_szStream (by kernel_rfl)
def S_l_eqStream : FSpec where
  args := [.agg [.sl .int, .sl .int, .bool], .agg [.sl .int, .sl .int, .bool]]
  outs := [.sc .bool]
  pre := fun a => match a with
    | [.agg [.sl .int w, .sl .int t, .bool bad], .agg [.sl .int w2, .sl .int t2, .bool bad2]] => (((w).length : Nat) : Int) ≤ 1099511627776 ∧ (((t).length : Nat) : Int) ≤ 1099511627776 ∧ (((w2).length : Nat) : Int) ≤ 1099511627776 ∧ (((t2).length : Nat) : Int) ≤ 1099511627776
    | _ => False
  post := fun a r => match a, r with
    | [.agg [.sl .int w, .sl .int t, .bool bad], .agg [.sl .int w2, .sl .int t2, .bool bad2]], [.sc (.bool r)] => r = decide ((w, t, bad) = (w2, t2, bad2))
    | _, _ => False
  kept := false
  chk := fun a r => match a, r with
    | [.agg [.sl .int w, .sl .int t, .bool bad], .agg [.sl .int w2, .sl .int t2, .bool bad2]], [.sc (.bool r)] => bif r then (bif bad then bad2 else !bad2) else true
    | _, _ => true
theorem m_l_eqStream : Meets Try.prog 23 S_l_eqStream :=
  meets tok mixed Try.func23 (by kernel_rfl) (l := [(10, S_l_eqIntS)]) ⟨m_l_eqIntS, trivial⟩ (ann := []) v_l_eqStream (by kernel_rfl)
def S_l_heldStream : FSpec where
  args := [.agg [.sl .int, .sl .int, .bool], .sc .int]
  outs := [.sc .int]
  pre := fun a => match a with
    | [.agg [.sl .int w, .sl .int t, .bool bad], .sc (.int _ k)] => (((w).length : Nat) : Int) ≤ 1099511627776 ∧ (((t).length : Nat) : Int) ≤ 1099511627776 ∧ 0 ≤ k ∧ k ≤ 1000000
    | _ => False
  post := fun a r => match a, r with
    | [.agg [.sl .int w, .sl .int t, .bool bad], .sc (.int _ k)], [.sc (.int _ r)] => r = (if w = marks k w.length ∧ t = marks (k + w.length) t.length then k + (((w).length : Nat) : Int) + (((t).length : Nat) : Int) else -1)
    | _, _ => False
  kept := false
theorem m_l_heldStream : Meets Try.prog 25 S_l_heldStream :=
  meets tok mixed Try.func25 (by kernel_rfl) (l := [(14, S_l_heldIntS)]) ⟨m_l_heldIntS, trivial⟩ (ann := []) v_l_heldStream (by kernel_rfl)
def S_l_markStream : FSpec where
  args := [.agg [.own 3 .int, .own 3 .int, .bool], .sc .int]
  outs := [.sc .int]
  pre := fun a => match a with
    | [.agg [.sl .int w, .sl .int t, .bool bad], .sc (.int _ k)] => True
    | _ => False
  post := fun a r => match a, r with
    | [.agg [.sl .int w, .sl .int t, .bool bad], .sc (.int _ k)], [.sc (.int _ r)] => True
    | _, _ => False
  kept := false
  lend := some 3
theorem m_l_markStream : Meets Try.prog 24 S_l_markStream where
  ok := by kernel_rfl
  there := ⟨_, _, Try.func24, rfl, by kernel_rfl⟩
  lcall := fun ety h => by
    obtain rfl : 3 = ety := Option.some.inj h
    exact lends_of tok mixed Try.func24 (l := [(13, S_l_markIntS)]) ⟨m_l_markIntS, trivial⟩ v_l_markStream (by kernel_rfl)
  call := fun h => by cases h
end Go.Proofs.Ytkkgpcbkkahieaa
