/-
  Functions meet their contracts: s_arch.
-/
import Derived.Test.YtkkgpcbkkahieaaT
import Derived.Test.YtkkgpcbkkahieaaVs
import Derived.Test.YtkkgpcbkkahieaaSi
import Derived.Test.YtkkgpcbkkahieaaSm
import Derived.Test.YtkkgpcbkkahieaaSp
import Derived.Test.YtkkgpcbkkahieaaSr
set_option linter.unusedVariables false
set_option linter.unusedSimpArgs false
open Go Go.Ax Go.Mx
namespace Go.Proofs.Ytkkgpcbkkahieaa
def S_s_l42Pack : FSpec where
  args := [.sc (.sl .ent)]
  outs := [.sc (.own 3 .int)]
  pre := fun a => match a with
    | [.sc (.sl .ent list)] => entOk list = true
    | _ => False
  post := fun a r => match a, r with
    | [.sc (.sl .ent list)], [.sc (.sl .int r)] => r = packE list
    | _, _ => False
  kept := false
theorem m_s_l42Pack : Meets Try.prog 28 S_s_l42Pack :=
  meets tok mixed Try.func28 (by kernel_rfl) (l := [(47, S_s_BlockPack)]) ⟨m_s_BlockPack, trivial⟩ (ann := [(4, [.slot 3 (.own 3 .int), .slot 4 (.own 3 .int), .slot 5 .int])]) v_s_l42Pack (by kernel_rfl)
def S_i_ArchivePack : FSpec where
  args := [.sc (.sl .ent)]
  outs := [.sc (.own 3 .int), .sc .bool]
  pre := fun a => match a with
    | [.sc (.sl .ent list)] => szE list ≤ 2000000
    | _ => False
  post := fun a r => match a, r with
    | [.sc (.sl .ent list)], [.sc (.sl .int r), .sc (.bool ok)] => ok = entOk list ∧ r = (archD list).getD []
    | _, _ => False
  kept := false
theorem m_i_ArchivePack : Meets Try.prog 9 S_i_ArchivePack :=
  meets tok mixed Try.func9 (by kernel_rfl) (l := [(30, S_i_EntriesValid), (31, S_i_BlockPack)]) ⟨m_i_EntriesValid, m_i_BlockPack, trivial⟩ (ann := [(6, [.slot 4 (.own 3 .int), .slot 5 (.own 3 .int), .slot 19 .int])]) v_i_ArchivePack (by kernel_rfl)
def S_s_ArchivePack : FSpec where
  args := [.sc (.sl .ent)]
  outs := [.sc (.own 3 .int), .sc .bool]
  pre := fun a => match a with
    | [.sc (.sl .ent list)] => szE list ≤ 2000000
    | _ => False
  post := fun a r => match a, r with
    | [.sc (.sl .ent list)], [.sc (.sl .int r), .sc (.bool ok)] => ok = entOk list ∧ r = (archD list).getD []
    | _, _ => False
  kept := false
theorem m_s_ArchivePack : Meets Try.prog 7 S_s_ArchivePack :=
  meets tok mixed Try.func7 (by kernel_rfl) (l := [(27, S_s_EntriesValid), (28, S_s_l42Pack)]) ⟨m_s_EntriesValid, m_s_l42Pack, trivial⟩ (ann := []) v_s_ArchivePack (by kernel_rfl)
def S_s_l42Read : FSpec where
  args := [.sc (.sl .int)]
  outs := [.sc (.own 53 .ent)]
  pre := fun a => match a with
    | [.sc (.sl .int bytes)] => (((bytes).length : Nat) : Int) ≤ 1099511627776 ∧ allIn 0 255 bytes = true ∧ 1 ≤ (((bytes).length : Nat) : Int)
    | _ => False
  post := fun a r => match a, r with
    | [.sc (.sl .int bytes)], [.sc (.sl .ent r)] => r = readS bytes (min (bytes.getD 0 0) 5).toNat 0 (1 + 2 * bytes.getD 0 0)
    | _, _ => False
  kept := true
theorem m_s_l42Read : Meets Try.prog 34 S_s_l42Read :=
  meets tok mixed Try.func34 (by kernel_rfl) (l := [(51, S_s_BlockOpen)]) ⟨m_s_BlockOpen, trivial⟩ (ann := [(4, [.slot 3 (.own 53 .ent), .slot 4 .int, .slot 5 .int])]) v_s_l42Read (by kernel_rfl)
def S_i_ArchiveOpen : FSpec where
  args := [.sc (.sl .int)]
  outs := [.sc (.own 53 .ent), .sc .bool]
  pre := fun a => match a with
    | [.sc (.sl .int bytes)] => (((bytes).length : Nat) : Int) ≤ 1099511627776
    | _ => False
  post := fun a r => match a, r with
    | [.sc (.sl .int bytes)], [.sc (.sl .ent r), .sc (.bool ok)] => ok = (aopenD bytes).isSome ∧ r = (aopenD bytes).getD []
    | _, _ => False
  kept := true
theorem m_i_ArchiveOpen : Meets Try.prog 17 S_i_ArchiveOpen :=
  meets tok mixed Try.func17 (by kernel_rfl) (l := [(9, S_i_ArchivePack), (36, S_i_bytesOk), (37, S_i_BlockOpen), (38, S_i_alike)]) ⟨m_i_ArchivePack, m_i_bytesOk, m_i_BlockOpen, m_i_alike, trivial⟩ (ann := [(6, [.slot 4 (.own 53 .ent), .slot 5 .int, .slot 46 .int])]) v_i_ArchiveOpen (by kernel_rfl)
def S_s_ArchiveOpen : FSpec where
  args := [.sc (.sl .int)]
  outs := [.sc (.own 53 .ent), .sc .bool]
  pre := fun a => match a with
    | [.sc (.sl .int bytes)] => (((bytes).length : Nat) : Int) ≤ 1099511627776
    | _ => False
  post := fun a r => match a, r with
    | [.sc (.sl .int bytes)], [.sc (.sl .ent r), .sc (.bool ok)] => ok = (aopenD bytes).isSome ∧ r = (aopenD bytes).getD []
    | _, _ => False
  kept := true
theorem m_s_ArchiveOpen : Meets Try.prog 15 S_s_ArchiveOpen :=
  meets tok mixed Try.func15 (by kernel_rfl) (l := [(7, S_s_ArchivePack), (33, S_s_l1Bytes), (34, S_s_l42Read), (35, S_s_l2Same)]) ⟨m_s_ArchivePack, m_s_l1Bytes, m_s_l42Read, m_s_l2Same, trivial⟩ (ann := []) v_s_ArchiveOpen (by kernel_rfl)
end Go.Proofs.Ytkkgpcbkkahieaa
