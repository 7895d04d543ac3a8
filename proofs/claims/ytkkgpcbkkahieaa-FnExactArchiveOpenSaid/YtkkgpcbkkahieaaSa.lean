/-
  Functions meet their contracts: a_basic.
-/
import Derived.Test.YtkkgpcbkkahieaaT
import Derived.Test.YtkkgpcbkkahieaaVa
set_option linter.unusedVariables false
set_option linter.unusedSimpArgs false
open Go Go.Ax Go.Mx
namespace Go.Proofs.Ytkkgpcbkkahieaa
def S_i_within : FSpec where
  args := [.sc .int, .sc .int, .sc .int]
  outs := [.sc .bool]
  pre := fun a => match a with
    | [.sc (.int _ n), .sc (.int _ low), .sc (.int _ high)] => True
    | _ => False
  post := fun a r => match a, r with
    | [.sc (.int _ n), .sc (.int _ low), .sc (.int _ high)], [.sc (.bool r)] => r = decide (low ≤ n ∧ n ≤ high)
    | _, _ => False
  kept := false
theorem m_i_within : Meets Try.prog 48 S_i_within :=
  meets tok mixed Try.func48 (by kernel_rfl) (l := []) trivial (ann := []) v_i_within (by kernel_rfl)
def S_s_l6In : FSpec where
  args := [.sc .int, .sc .int, .sc .int]
  outs := [.sc .bool]
  pre := fun a => match a with
    | [.sc (.int _ n), .sc (.int _ low), .sc (.int _ high)] => True
    | _ => False
  post := fun a r => match a, r with
    | [.sc (.int _ n), .sc (.int _ low), .sc (.int _ high)], [.sc (.bool r)] => r = decide (low ≤ n ∧ n ≤ high)
    | _, _ => False
  kept := false
theorem m_s_l6In : Meets Try.prog 45 S_s_l6In :=
  meets tok mixed Try.func45 (by kernel_rfl) (l := []) trivial (ann := []) v_s_l6In (by kernel_rfl)
def S_i_every : FSpec where
  args := [.sc (.sl .int), .sc .int, .sc .int]
  outs := [.sc .bool]
  pre := fun a => match a with
    | [.sc (.sl .int list), .sc (.int _ low), .sc (.int _ high)] => (((list).length : Nat) : Int) ≤ 1099511627776
    | _ => False
  post := fun a r => match a, r with
    | [.sc (.sl .int list), .sc (.int _ low), .sc (.int _ high)], [.sc (.bool r)] => r = allIn low high list
    | _, _ => False
  kept := false
theorem m_i_every : Meets Try.prog 52 S_i_every :=
  meets tok mixed Try.func52 (by kernel_rfl) (l := [(48, S_i_within)]) ⟨m_i_within, trivial⟩ (ann := [(2, [.slot 11 .int])]) v_i_every (by kernel_rfl)
def S_i_ListValid : FSpec where
  args := [.sc (.sl .int)]
  outs := [.sc .bool]
  pre := fun a => match a with
    | [.sc (.sl .int list)] => (((list).length : Nat) : Int) ≤ 1099511627776
    | _ => False
  post := fun a r => match a, r with
    | [.sc (.sl .int list)], [.sc (.bool r)] => r = LV list
    | _, _ => False
  kept := false
theorem m_i_ListValid : Meets Try.prog 49 S_i_ListValid :=
  meets tok mixed Try.func49 (by kernel_rfl) (l := [(52, S_i_every)]) ⟨m_i_every, trivial⟩ (ann := []) v_i_ListValid (by kernel_rfl)
def S_s_ListValid : FSpec where
  args := [.sc (.sl .int)]
  outs := [.sc .bool]
  pre := fun a => match a with
    | [.sc (.sl .int list)] => (((list).length : Nat) : Int) ≤ 1099511627776
    | _ => False
  post := fun a r => match a, r with
    | [.sc (.sl .int list)], [.sc (.bool r)] => r = LV list
    | _, _ => False
  kept := false
theorem m_s_ListValid : Meets Try.prog 46 S_s_ListValid :=
  meets tok mixed Try.func46 (by kernel_rfl) (l := [(45, S_s_l6In)]) ⟨m_s_l6In, trivial⟩ (ann := [(2, [.slot 3 .int])]) v_s_ListValid (by kernel_rfl)
def S_i_cloned : FSpec where
  args := [.sc (.sl .int)]
  outs := [.sc (.own 3 .int)]
  pre := fun a => match a with
    | [.sc (.sl .int list)] => (((list).length : Nat) : Int) ≤ 1099511627776
    | _ => False
  post := fun a r => match a, r with
    | [.sc (.sl .int list)], [.sc (.sl .int r)] => r = list
    | _, _ => False
  kept := false
theorem m_i_cloned : Meets Try.prog 43 S_i_cloned :=
  meets tok mixed Try.func43 (by kernel_rfl) (l := []) trivial (ann := []) v_i_cloned (by kernel_rfl)
def S_l_toIntS : FSpec where
  args := [.sc (.sl .int)]
  outs := [.sc (.own 3 .int)]
  pre := fun a => match a with
    | [.sc (.sl .int a)] => (((a).length : Nat) : Int) ≤ 1099511627776
    | _ => False
  post := fun a r => match a, r with
    | [.sc (.sl .int a)], [.sc (.sl .int r)] => r = a
    | _, _ => False
  kept := false
theorem m_l_toIntS : Meets Try.prog 16 S_l_toIntS :=
  meets tok mixed Try.func16 (by kernel_rfl) (l := []) trivial (ann := [(3, [.slot 4 .int, .arr 3 3 .int])]) v_l_toIntS (by kernel_rfl)
def S_l_eqIntS : FSpec where
  args := [.sc (.sl .int), .sc (.sl .int)]
  outs := [.sc .bool]
  pre := fun a => match a with
    | [.sc (.sl .int a), .sc (.sl .int b)] => (((a).length : Nat) : Int) ≤ 1099511627776 ∧ (((b).length : Nat) : Int) ≤ 1099511627776
    | _ => False
  post := fun a r => match a, r with
    | [.sc (.sl .int a), .sc (.sl .int b)], [.sc (.bool r)] => r = decide (a = b)
    | _, _ => False
  kept := false
theorem m_l_eqIntS : Meets Try.prog 10 S_l_eqIntS :=
  meets tok mixed Try.func10 (by kernel_rfl) (l := []) trivial (ann := [(4, [.slot 5 .int])]) v_l_eqIntS (by kernel_rfl)
def S_l_markIntS : FSpec where
  args := [.sc (.own 3 .int), .sc .int]
  outs := [.sc .int]
  pre := fun a => match a with
    | [.sc (.sl .int a), .sc (.int _ k)] => (((a).length : Nat) : Int) ≤ 1099511627776 ∧ 0 ≤ k ∧ k ≤ 1000000000000000
    | _ => False
  post := fun a r => match a, r with
    | [.sc (.sl .int a), .sc (.int _ k)], [.sc (.sl .int a'), .sc (.int _ r)] => r = k + a.length ∧ a' = marks k a.length
    | _, _ => False
  kept := false
theorem m_l_markIntS : Meets Try.prog 13 S_l_markIntS :=
  meets tok mixed Try.func13 (by kernel_rfl) (l := []) trivial (ann := [(2, [.slot 1 .int, .slot 5 .int, .arr 0 3 .int])]) v_l_markIntS (by kernel_rfl)
def S_l_heldIntS : FSpec where
  args := [.sc (.sl .int), .sc .int]
  outs := [.sc .int]
  pre := fun a => match a with
    | [.sc (.sl .int a), .sc (.int _ k)] => (((a).length : Nat) : Int) ≤ 1099511627776 ∧ 0 ≤ k ∧ k ≤ 1000000000000000
    | _ => False
  post := fun a r => match a, r with
    | [.sc (.sl .int a), .sc (.int _ k)], [.sc (.int _ r)] => r = if a = marks k a.length then k + a.length else -1
    | _, _ => False
  kept := false
theorem m_l_heldIntS : Meets Try.prog 14 S_l_heldIntS :=
  meets tok mixed Try.func14 (by kernel_rfl) (l := []) trivial (ann := [(2, [.slot 1 .int, .slot 5 .int])]) v_l_heldIntS (by kernel_rfl)
end Go.Proofs.Ytkkgpcbkkahieaa
