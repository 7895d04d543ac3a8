/-
  Functions meet their contracts: s_arch.
-/
import Derived.Test.YtmfamcaiimhaeaaT
import Derived.Test.YtmfamcaiimhaeaaVs
import Derived.Test.YtmfamcaiimhaeaaSa
import Derived.Test.YtmfamcaiimhaeaaSb
import Derived.Test.YtmfamcaiimhaeaaSf
import Derived.Test.YtmfamcaiimhaeaaSi
import Derived.Test.YtmfamcaiimhaeaaSm
import Derived.Test.YtmfamcaiimhaeaaSp
import Derived.Test.YtmfamcaiimhaeaaSr
set_option linter.unusedVariables false
set_option linter.unusedSimpArgs false
open Go Go.Ax Go.Mx
namespace Go.Proofs.Ytmfamcaiimhaeaa
def S_s_l42Pack : FSpec where
  args := [.sc (.sl .ent)]
  outs := [.sc (.own 3 .int)]
  pre := fun a => match a with
    | [.sc (.sl .ent list)] => entOk list = true
    | _ => False
  post := fun a r => match a, r with
    | [.sc (.sl .ent list)], [.sc (.sl .int r)] => r = packE list
    | _, _ => False
  kept := false
theorem m_s_l42Pack : Meets Try.prog 77 S_s_l42Pack :=
  meets tok mixed Try.func77 (by kernel_rfl) (l := [(67, S_s_BlockPack)]) ⟨m_s_BlockPack, trivial⟩ (ann := [(4, [.slot 3 (.own 3 .int), .slot 4 (.own 3 .int), .slot 5 .int])]) v_s_l42Pack (by kernel_rfl)
def S_i_ArchivePack : FSpec where
  args := [.sc (.sl .ent)]
  outs := [.sc (.own 3 .int), .sc .bool]
  pre := fun a => match a with
    | [.sc (.sl .ent list)] => szE list ≤ 2000000
    | _ => False
  post := fun a r => match a, r with
    | [.sc (.sl .ent list)], [.sc (.sl .int r), .sc (.bool ok)] => ok = entOk list ∧ r = (archD list).getD []
    | _, _ => False
  kept := false
theorem m_i_ArchivePack : Meets Try.prog 26 S_i_ArchivePack :=
  meets tok mixed Try.func26 (by kernel_rfl) (l := [(24, S_i_EntriesValid), (40, S_i_BlockPack)]) ⟨m_i_EntriesValid, m_i_BlockPack, trivial⟩ (ann := [(6, [.slot 4 (.own 3 .int), .slot 5 (.own 3 .int), .slot 19 .int])]) v_i_ArchivePack (by kernel_rfl)
def S_s_ArchivePack : FSpec where
  args := [.sc (.sl .ent)]
  outs := [.sc (.own 3 .int), .sc .bool]
  pre := fun a => match a with
    | [.sc (.sl .ent list)] => szE list ≤ 2000000
    | _ => False
  post := fun a r => match a, r with
    | [.sc (.sl .ent list)], [.sc (.sl .int r), .sc (.bool ok)] => ok = entOk list ∧ r = (archD list).getD []
    | _, _ => False
  kept := false
theorem m_s_ArchivePack : Meets Try.prog 48 S_s_ArchivePack :=
  meets tok mixed Try.func48 (by kernel_rfl) (l := [(25, S_s_EntriesValid), (77, S_s_l42Pack)]) ⟨m_s_EntriesValid, m_s_l42Pack, trivial⟩ (ann := []) v_s_ArchivePack (by kernel_rfl)
def S_s_l42Read : FSpec where
  args := [.sc (.sl .int)]
  outs := [.sc (.own 43 .ent)]
  pre := fun a => match a with
    | [.sc (.sl .int bytes)] => (((bytes).length : Nat) : Int) ≤ 1099511627776 ∧ allIn 0 255 bytes = true ∧ 1 ≤ (((bytes).length : Nat) : Int)
    | _ => False
  post := fun a r => match a, r with
    | [.sc (.sl .int bytes)], [.sc (.sl .ent r)] => r = readS bytes (min (bytes.getD 0 0) 5).toNat 0 (1 + 2 * bytes.getD 0 0)
    | _, _ => False
  kept := true
theorem m_s_l42Read : Meets Try.prog 85 S_s_l42Read :=
  meets tok mixed Try.func85 (by kernel_rfl) (l := [(101, S_s_BlockOpen)]) ⟨m_s_BlockOpen, trivial⟩ (ann := [(4, [.slot 3 (.own 43 .ent), .slot 4 .int, .slot 5 .int])]) v_s_l42Read (by kernel_rfl)
def S_i_ArchiveOpen : FSpec where
  args := [.sc (.sl .int)]
  outs := [.sc (.own 43 .ent), .sc .bool]
  pre := fun a => match a with
    | [.sc (.sl .int bytes)] => (((bytes).length : Nat) : Int) ≤ 1099511627776
    | _ => False
  post := fun a r => match a, r with
    | [.sc (.sl .int bytes)], [.sc (.sl .ent r), .sc (.bool ok)] => ok = (aopenD bytes).isSome ∧ r = (aopenD bytes).getD []
    | _, _ => False
  kept := true
theorem m_i_ArchiveOpen : Meets Try.prog 53 S_i_ArchiveOpen :=
  meets tok mixed Try.func53 (by kernel_rfl) (l := [(26, S_i_ArchivePack), (81, S_i_bytesOk), (82, S_i_BlockOpen), (83, S_i_alike)]) ⟨m_i_ArchivePack, m_i_bytesOk, m_i_BlockOpen, m_i_alike, trivial⟩ (ann := [(6, [.slot 4 (.own 43 .ent), .slot 5 .int, .slot 46 .int])]) v_i_ArchiveOpen (by kernel_rfl)
def S_s_ArchiveOpen : FSpec where
  args := [.sc (.sl .int)]
  outs := [.sc (.own 43 .ent), .sc .bool]
  pre := fun a => match a with
    | [.sc (.sl .int bytes)] => (((bytes).length : Nat) : Int) ≤ 1099511627776
    | _ => False
  post := fun a r => match a, r with
    | [.sc (.sl .int bytes)], [.sc (.sl .ent r), .sc (.bool ok)] => ok = (aopenD bytes).isSome ∧ r = (aopenD bytes).getD []
    | _, _ => False
  kept := true
theorem m_s_ArchiveOpen : Meets Try.prog 56 S_s_ArchiveOpen :=
  meets tok mixed Try.func56 (by kernel_rfl) (l := [(48, S_s_ArchivePack), (84, S_s_l1Bytes), (85, S_s_l42Read), (86, S_s_l2Same)]) ⟨m_s_ArchivePack, m_s_l1Bytes, m_s_l42Read, m_s_l2Same, trivial⟩ (ann := []) v_s_ArchiveOpen (by kernel_rfl)
def S_i_ArchiveGet : FSpec where
  args := [.sc (.sl .int), .sc .int]
  outs := [.sc (.own 3 .int), .sc .bool]
  pre := fun a => match a with
    | [.sc (.sl .int bytes), .sc (.int _ name)] => (((bytes).length : Nat) : Int) ≤ 1099511627776
    | _ => False
  post := fun a r => match a, r with
    | [.sc (.sl .int bytes), .sc (.int _ name)], [.sc (.sl .int r), .sc (.bool ok)] => ok = (getD' bytes name).isSome ∧ r = (getD' bytes name).getD []
    | _, _ => False
  kept := false
theorem m_i_ArchiveGet : Meets Try.prog 27 S_i_ArchiveGet :=
  meets tok mixed Try.func27 (by kernel_rfl) (l := [(53, S_i_ArchiveOpen), (66, S_i_cloned)]) ⟨m_i_ArchiveOpen, m_i_cloned, trivial⟩ (ann := [(3, [.slot 17 .int])]) v_i_ArchiveGet (by kernel_rfl)
def S_s_ArchiveGet : FSpec where
  args := [.sc (.sl .int), .sc .int]
  outs := [.sc (.sl .int), .sc .bool]
  pre := fun a => match a with
    | [.sc (.sl .int bytes), .sc (.int _ name)] => (((bytes).length : Nat) : Int) ≤ 1099511627776
    | _ => False
  post := fun a r => match a, r with
    | [.sc (.sl .int bytes), .sc (.int _ name)], [.sc (.sl .int r), .sc (.bool ok)] => ok = (getD' bytes name).isSome ∧ r = (getD' bytes name).getD []
    | _, _ => False
  kept := true
theorem m_s_ArchiveGet : Meets Try.prog 55 S_s_ArchiveGet :=
  meets tok mixed Try.func55 (by kernel_rfl) (l := [(56, S_s_ArchiveOpen)]) ⟨m_s_ArchiveOpen, trivial⟩ (ann := [(3, [.slot 8 .int])]) v_s_ArchiveGet (by kernel_rfl)
def S_s_l92Damage : FSpec where
  args := [.box [.sl .u8, .int], .sc (.sl .int)]
  outs := [.sc (.sl .int)]
  pre := fun a => match a with
    | [.agg [.sl .u8 b, .int _ p], .sc (.sl .int list)] => (((b).length : Nat) : Int) ≤ 1099511627776 ∧ 0 ≤ p ∧ p ≤ 900000000 ∧ (((list).length : Nat) : Int) ≤ 5000
    | _ => False
  post := fun a r => match a, r with
    | [.agg [.sl .u8 b, .int _ p], .sc (.sl .int list)], [.agg [.sl .u8 b', .int _ p'], .sc (.sl .int out)] => b = b' ∧ p ≤ p' ∧ p' ≤ p + 10 ∧ (((out).length : Nat) : Int) ≤ 5001
    | _, _ => False
  kept := true
theorem m_s_l92Damage : Meets Try.prog 87 S_s_l92Damage :=
  meets tok mixed Try.func87 (by kernel_rfl) (l := [(88, S_s_pick)]) ⟨m_s_pick, trivial⟩ (ann := []) v_s_l92Damage (by kernel_rfl)
def S_s_DrawArchivePack : FSpec where
  args := [.sc (.sl .u8)]
  outs := [.sc (.own 43 .ent)]
  pre := fun a => match a with
    | [.sc (.sl .u8 code)] => (((code).length : Nat) : Int) ≤ 1099511627776
    | _ => False
  post := fun a r => match a, r with
    | [.sc (.sl .u8 code)], [.sc (.sl .ent out)] => (((out).length : Nat) : Int) ≤ 7 ∧ szE out ≤ 5000
    | _, _ => False
  kept := true
theorem m_s_DrawArchivePack : Meets Try.prog 47 S_s_DrawArchivePack :=
  meets tok mixed Try.func47 (by kernel_rfl) (l := [(60, S_s_l92Entries), (61, S_s_l6Open)]) ⟨m_s_l92Entries, m_s_l6Open, trivial⟩ (ann := []) v_s_DrawArchivePack (by kernel_rfl)
def S_s_DrawArchiveOpen : FSpec where
  args := [.sc (.sl .u8)]
  outs := [.sc (.sl .int)]
  pre := fun a => match a with
    | [.sc (.sl .u8 code)] => (((code).length : Nat) : Int) ≤ 1099511627776
    | _ => False
  post := fun a r => match a, r with
    | [.sc (.sl .u8 code)], [.sc (.sl .int out)] => (((out).length : Nat) : Int) ≤ 5001
    | _, _ => False
  kept := true
theorem m_s_DrawArchiveOpen : Meets Try.prog 58 S_s_DrawArchiveOpen :=
  meets tok mixed Try.func58 (by kernel_rfl) (l := [(48, S_s_ArchivePack), (60, S_s_l92Entries), (61, S_s_l6Open), (87, S_s_l92Damage)]) ⟨m_s_ArchivePack, m_s_l92Entries, m_s_l6Open, m_s_l92Damage, trivial⟩ (ann := []) v_s_DrawArchiveOpen (by kernel_rfl)
def S_s_DrawArchiveGet : FSpec where
  args := [.sc (.sl .u8)]
  outs := [.sc (.sl .int), .sc .int]
  pre := fun a => match a with
    | [.sc (.sl .u8 code)] => (((code).length : Nat) : Int) ≤ 1099511627776
    | _ => False
  post := fun a r => match a, r with
    | [.sc (.sl .u8 code)], [.sc (.sl .int out), .sc (.int _ name)] => (((out).length : Nat) : Int) ≤ 5001
    | _, _ => False
  kept := true
theorem m_s_DrawArchiveGet : Meets Try.prog 59 S_s_DrawArchiveGet :=
  meets tok mixed Try.func59 (by kernel_rfl) (l := [(48, S_s_ArchivePack), (60, S_s_l92Entries), (61, S_s_l6Open), (87, S_s_l92Damage), (88, S_s_pick)]) ⟨m_s_ArchivePack, m_s_l92Entries, m_s_l6Open, m_s_l92Damage, m_s_pick, trivial⟩ (ann := []) v_s_DrawArchiveGet (by kernel_rfl)
def S_l_sameEntries : FSpec where
  args := [.sc (.sl .ent), .sc (.sl .ent)]
  outs := [.sc .bool]
  pre := fun a => match a with
    | [.sc (.sl .ent a), .sc (.sl .ent b)] => szE a ≤ 2000000 ∧ szE b ≤ 2000000
    | _ => False
  post := fun a r => match a, r with
    | [.sc (.sl .ent a), .sc (.sl .ent b)], [.sc (.bool r)] => r = decide (a = b)
    | _, _ => False
  kept := false
theorem m_l_sameEntries : Meets Try.prog 54 S_l_sameEntries :=
  meets tok mixed Try.func54 (by kernel_rfl) (l := [(28, S_l_sameInts)]) ⟨m_l_sameInts, trivial⟩ (ann := [(4, [.slot 5 .int])]) v_l_sameEntries (by kernel_rfl)
end Go.Proofs.Ytmfamcaiimhaeaa
