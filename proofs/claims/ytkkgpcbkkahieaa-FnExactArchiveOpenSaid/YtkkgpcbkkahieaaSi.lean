/-
  Functions meet their contracts: i_entry.
-/
import Derived.Test.YtkkgpcbkkahieaaT
import Derived.Test.YtkkgpcbkkahieaaVi
import Derived.Test.YtkkgpcbkkahieaaSa
set_option linter.unusedVariables false
set_option linter.unusedSimpArgs false
open Go Go.Ax Go.Mx
namespace Go.Proofs.Ytkkgpcbkkahieaa
def S_l_eqEntry : FSpec where
  args := [.agg [.int, .sl .int], .agg [.int, .sl .int]]
  outs := [.sc .bool]
  pre := fun a => match a with
    | [.agg [.int _ n, .sl .int l], .agg [.int _ n2, .sl .int l2]] => (((l).length : Nat) : Int) ≤ 1099511627776 ∧ (((l2).length : Nat) : Int) ≤ 1099511627776
    | _ => False
  post := fun a r => match a, r with
    | [.agg [.int _ n, .sl .int l], .agg [.int _ n2, .sl .int l2]], [.sc (.bool r)] => r = decide ((n, l) = (n2, l2))
    | _, _ => False
  kept := false
theorem m_l_eqEntry : Meets Try.prog 32 S_l_eqEntry :=
  meets tok mixed Try.func32 (by kernel_rfl) (l := [(10, S_l_eqIntS)]) ⟨m_l_eqIntS, trivial⟩ (ann := []) v_l_eqEntry (by kernel_rfl)
def S_l_eqEntryS : FSpec where
  args := [.sc (.sl .ent), .sc (.sl .ent)]
  outs := [.sc .bool]
  pre := fun a => match a with
    | [.sc (.sl .ent a), .sc (.sl .ent b)] => szE a ≤ 2000000 ∧ szE b ≤ 2000000
    | _ => False
  post := fun a r => match a, r with
    | [.sc (.sl .ent a), .sc (.sl .ent b)], [.sc (.bool r)] => r = decide (a = b)
    | _, _ => False
  kept := false
theorem m_l_eqEntryS : Meets Try.prog 11 S_l_eqEntryS :=
  meets tok mixed Try.func11 (by kernel_rfl) (l := [(32, S_l_eqEntry)]) ⟨m_l_eqEntry, trivial⟩ (ann := [(4, [.slot 5 .int])]) v_l_eqEntryS (by kernel_rfl)
def S_i_EntriesValid : FSpec where
  args := [.sc (.sl .ent)]
  outs := [.sc .bool]
  pre := fun a => match a with
    | [.sc (.sl .ent list)] => szE list ≤ 2000000
    | _ => False
  post := fun a r => match a, r with
    | [.sc (.sl .ent list)], [.sc (.bool r)] => r = entOk list
    | _, _ => False
  kept := false
theorem m_i_EntriesValid : Meets Try.prog 30 S_i_EntriesValid :=
  meets tok mixed Try.func30 (by kernel_rfl) (l := [(48, S_i_within), (49, S_i_ListValid)]) ⟨m_i_within, m_i_ListValid, trivial⟩ (ann := [(2, [.slot 7 .int])]) v_i_EntriesValid (by kernel_rfl)
def S_s_EntriesValid : FSpec where
  args := [.sc (.sl .ent)]
  outs := [.sc .bool]
  pre := fun a => match a with
    | [.sc (.sl .ent list)] => szE list ≤ 2000000
    | _ => False
  post := fun a r => match a, r with
    | [.sc (.sl .ent list)], [.sc (.bool r)] => r = entOk list
    | _, _ => False
  kept := false
theorem m_s_EntriesValid : Meets Try.prog 27 S_s_EntriesValid :=
  meets tok mixed Try.func27 (by kernel_rfl) (l := [(45, S_s_l6In), (46, S_s_ListValid)]) ⟨m_s_l6In, m_s_ListValid, trivial⟩ (ann := [(2, [.slot 3 .int])]) v_s_EntriesValid (by kernel_rfl)
end Go.Proofs.Ytkkgpcbkkahieaa
