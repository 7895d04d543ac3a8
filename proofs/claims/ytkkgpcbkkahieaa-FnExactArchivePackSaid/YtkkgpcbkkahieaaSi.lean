/-
  Functions meet their contracts: i_entry.
-/
import Derived.Test.YtkkgpcbkkahieaaT
import Derived.Test.YtkkgpcbkkahieaaVi
import Derived.Test.YtkkgpcbkkahieaaSa
set_option linter.unusedVariables false
set_option linter.unusedSimpArgs false
open Go Go.Ax Go.Mx
namespace Go.Proofs.Ytkkgpcbkkahieaa
def S_l_toEntry : FSpec where
  args := [.agg [.int, .sl .int]]
  outs := [.agg [.int, .sl .int]]
  pre := fun a => match a with
    | [.agg [.int _ n, .sl .int l]] => (((l).length : Nat) : Int) ≤ 1099511627776
    | _ => False
  post := fun a r => match a, r with
    | [.agg [.int _ n, .sl .int l]], [.agg [.int _ n2, .sl .int l2]] => n2 = n ∧ l2 = l
    | _, _ => False
  kept := true
theorem m_l_toEntry : Meets Try.prog 29 S_l_toEntry :=
  meets tok mixed Try.func29 (by kernel_rfl) (l := [(16, S_l_toIntS)]) ⟨m_l_toIntS, trivial⟩ (ann := []) v_l_toEntry (by kernel_rfl)
def S_l_toEntryS : FSpec where
  args := [.sc (.sl .ent)]
  outs := [.sc (.own 53 .ent)]
  pre := fun a => match a with
    | [.sc (.sl .ent a)] => szE a ≤ 2000000
    | _ => False
  post := fun a r => match a, r with
    | [.sc (.sl .ent a)], [.sc (.sl .ent r)] => r = a
    | _, _ => False
  kept := true
theorem m_l_toEntryS : Meets Try.prog 8 S_l_toEntryS :=
  meets tok mixed Try.func8 (by kernel_rfl) (l := [(29, S_l_toEntry)]) ⟨m_l_toEntry, trivial⟩ (ann := [(3, [.slot 4 .int, .arr 3 53 .ent])]) v_l_toEntryS (by kernel_rfl)
def S_l_szIntS : FSpec where
  args := [.sc (.sl .int), .sc .int]
  outs := [.sc .int]
  pre := fun a => match a with
    | [.sc (.sl .int a), .sc (.int _ left)] => (((a).length : Nat) : Int) ≤ 9223372036854775807 ∧ 0 ≤ left ∧ left ≤ 1000000000000000000
    | _ => False
  post := fun a r => match a, r with
    | [.sc (.sl .int a), .sc (.int _ left)], [.sc (.int _ r)] => r = if left - a.length < 0 then -1 else left - a.length
    | _, _ => False
  kept := false
theorem m_l_szIntS : Meets Try.prog 39 S_l_szIntS :=
  meets tok mixed Try.func39 (by kernel_rfl) (l := []) trivial (ann := []) v_l_szIntS (by kernel_rfl)
def S_l_szEntry : FSpec where
  args := [.agg [.int, .sl .int], .sc .int]
  outs := [.sc .int]
  pre := fun a => match a with
    | [.agg [.int _ n, .sl .int l], .sc (.int _ left)] => (((l).length : Nat) : Int) ≤ 9223372036854775807 ∧ 0 ≤ left ∧ left ≤ 1000000000000000000
    | _ => False
  post := fun a r => match a, r with
    | [.agg [.int _ n, .sl .int l], .sc (.int _ left)], [.sc (.int _ r)] => r = if left - l.length < 0 then -1 else left - l.length
    | _, _ => False
  kept := false
theorem m_l_szEntry : Meets Try.prog 26 S_l_szEntry :=
  meets tok mixed Try.func26 (by kernel_rfl) (l := [(39, S_l_szIntS)]) ⟨m_l_szIntS, trivial⟩ (ann := []) v_l_szEntry (by kernel_rfl)
def S_l_szEntryS : FSpec where
  args := [.sc (.sl .ent), .sc .int]
  outs := [.sc .int]
  pre := fun a => match a with
    | [.sc (.sl .ent a), .sc (.int _ left)] => ((((a).length : Nat) : Int) ≤ 9223372036854775807 ∧ Ez a) ∧ 0 ≤ left ∧ left ≤ 1000000000000000000
    | _ => False
  post := fun a r => match a, r with
    | [.sc (.sl .ent a), .sc (.int _ left)], [.sc (.int _ r)] => r = if left - szE a < 0 then -1 else left - szE a
    | _, _ => False
  kept := false
theorem m_l_szEntryS : Meets Try.prog 6 S_l_szEntryS :=
  meets tok mixed Try.func6 (by kernel_rfl) (l := [(26, S_l_szEntry)]) ⟨m_l_szEntry, trivial⟩ (ann := [(5, [.slot 1 .int, .slot 5 .int])]) v_l_szEntryS (by kernel_rfl)
def S_l_eqEntry : FSpec where
  args := [.agg [.int, .sl .int], .agg [.int, .sl .int]]
  outs := [.sc .bool]
  pre := fun a => match a with
    | [.agg [.int _ n, .sl .int l], .agg [.int _ n2, .sl .int l2]] => (((l).length : Nat) : Int) ≤ 1099511627776 ∧ (((l2).length : Nat) : Int) ≤ 1099511627776
    | _ => False
  post := fun a r => match a, r with
    | [.agg [.int _ n, .sl .int l], .agg [.int _ n2, .sl .int l2]], [.sc (.bool r)] => r = decide ((n, l) = (n2, l2))
    | _, _ => False
  kept := false
theorem m_l_eqEntry : Meets Try.prog 32 S_l_eqEntry :=
  meets tok mixed Try.func32 (by kernel_rfl) (l := [(10, S_l_eqIntS)]) ⟨m_l_eqIntS, trivial⟩ (ann := []) v_l_eqEntry (by kernel_rfl)
def S_l_eqEntryS : FSpec where
  args := [.sc (.sl .ent), .sc (.sl .ent)]
  outs := [.sc .bool]
  pre := fun a => match a with
    | [.sc (.sl .ent a), .sc (.sl .ent b)] => szE a ≤ 2000000 ∧ szE b ≤ 2000000
    | _ => False
  post := fun a r => match a, r with
    | [.sc (.sl .ent a), .sc (.sl .ent b)], [.sc (.bool r)] => r = decide (a = b)
    | _, _ => False
  kept := false
theorem m_l_eqEntryS : Meets Try.prog 11 S_l_eqEntryS :=
  meets tok mixed Try.func11 (by kernel_rfl) (l := [(32, S_l_eqEntry)]) ⟨m_l_eqEntry, trivial⟩ (ann := [(4, [.slot 5 .int])]) v_l_eqEntryS (by kernel_rfl)
def S_i_EntriesValid : FSpec where
  args := [.sc (.sl .ent)]
  outs := [.sc .bool]
  pre := fun a => match a with
    | [.sc (.sl .ent list)] => szE list ≤ 2000000
    | _ => False
  post := fun a r => match a, r with
    | [.sc (.sl .ent list)], [.sc (.bool r)] => r = entOk list
    | _, _ => False
  kept := false
theorem m_i_EntriesValid : Meets Try.prog 30 S_i_EntriesValid :=
  meets tok mixed Try.func30 (by kernel_rfl) (l := [(48, S_i_within), (49, S_i_ListValid)]) ⟨m_i_within, m_i_ListValid, trivial⟩ (ann := [(2, [.slot 7 .int])]) v_i_EntriesValid (by kernel_rfl)
def S_s_EntriesValid : FSpec where
  args := [.sc (.sl .ent)]
  outs := [.sc .bool]
  pre := fun a => match a with
    | [.sc (.sl .ent list)] => szE list ≤ 2000000
    | _ => False
  post := fun a r => match a, r with
    | [.sc (.sl .ent list)], [.sc (.bool r)] => r = entOk list
    | _, _ => False
  kept := false
theorem m_s_EntriesValid : Meets Try.prog 27 S_s_EntriesValid :=
  meets tok mixed Try.func27 (by kernel_rfl) (l := [(45, S_s_l6In), (46, S_s_ListValid)]) ⟨m_s_l6In, m_s_ListValid, trivial⟩ (ann := [(2, [.slot 3 .int])]) v_s_EntriesValid (by kernel_rfl)
end Go.Proofs.Ytkkgpcbkkahieaa
