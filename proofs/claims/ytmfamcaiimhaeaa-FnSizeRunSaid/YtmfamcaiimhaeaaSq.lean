/-
  Functions meet their contracts: q_size.
-/
import Derived.Test.YtmfamcaiimhaeaaT
import Derived.Test.YtmfamcaiimhaeaaVq
import Derived.Test.YtmfamcaiimhaeaaSa
import Derived.Test.YtmfamcaiimhaeaaSb
import Derived.Test.YtmfamcaiimhaeaaSp
set_option linter.unusedVariables false
set_option linter.unusedSimpArgs false
open Go Go.Ax Go.Mx
namespace Go.Proofs.Ytmfamcaiimhaeaa
def S_i_SizesOf : FSpec where
  args := [.sc (.sl .int)]
  outs := [.sc (.own 3 .int)]
  pre := fun a => match a with
    | [.sc (.sl .int list)] => (((list).length : Nat) : Int) ≤ 1099511627776
    | _ => False
  post := fun a r => match a, r with
    | [.sc (.sl .int list)], [.sc (.sl .int r)] => r = sizesD list ∧ (((r).length : Nat) : Int) ≤ 4
    | _, _ => False
  kept := false
theorem m_i_SizesOf : Meets Try.prog 36 S_i_SizesOf :=
  meets tok mixed Try.func36 (by kernel_rfl) (l := [(42, S_i_BlockAs), (63, S_i_ListValid)]) ⟨m_i_BlockAs, m_i_ListValid, trivial⟩ (ann := [(5, [.slot 3 (.own 3 .int), .slot 4 .int])]) v_i_SizesOf (by kernel_rfl)
def S_s_SizesOf : FSpec where
  args := [.sc (.sl .int)]
  outs := [.sc (.own 3 .int)]
  pre := fun a => match a with
    | [.sc (.sl .int list)] => (((list).length : Nat) : Int) ≤ 1099511627776
    | _ => False
  post := fun a r => match a, r with
    | [.sc (.sl .int list)], [.sc (.sl .int r)] => r = sizesD list ∧ (((r).length : Nat) : Int) ≤ 4
    | _, _ => False
  kept := false
theorem m_s_SizesOf : Meets Try.prog 35 S_s_SizesOf :=
  meets tok mixed Try.func35 (by kernel_rfl) (l := [(65, S_s_ListValid), (68, S_s_BlockAs)]) ⟨m_s_ListValid, m_s_BlockAs, trivial⟩ (ann := [(3, [.slot 3 (.own 3 .int), .slot 4 .int])]) v_s_SizesOf (by kernel_rfl)
def S_i_SizeBest : FSpec where
  args := [.sc (.sl .int)]
  outs := [.sc .int]
  pre := fun a => match a with
    | [.sc (.sl .int list)] => (((list).length : Nat) : Int) ≤ 1099511627776
    | _ => False
  post := fun a r => match a, r with
    | [.sc (.sl .int list)], [.sc (.int _ n)] => n = bestD list
    | _, _ => False
  kept := false
theorem m_i_SizeBest : Meets Try.prog 31 S_i_SizeBest :=
  meets tok mixed Try.func31 (by kernel_rfl) (l := [(40, S_i_BlockPack)]) ⟨m_i_BlockPack, trivial⟩ (ann := []) v_i_SizeBest (by kernel_rfl)
def S_s_SizeBest : FSpec where
  args := [.sc (.sl .int)]
  outs := [.sc .int]
  pre := fun a => match a with
    | [.sc (.sl .int list)] => (((list).length : Nat) : Int) ≤ 1099511627776
    | _ => False
  post := fun a r => match a, r with
    | [.sc (.sl .int list)], [.sc (.int _ n)] => n = bestD list
    | _, _ => False
  kept := false
theorem m_s_SizeBest : Meets Try.prog 29 S_s_SizeBest :=
  meets tok mixed Try.func29 (by kernel_rfl) (l := [(65, S_s_ListValid), (67, S_s_BlockPack)]) ⟨m_s_ListValid, m_s_BlockPack, trivial⟩ (ann := []) v_s_SizeBest (by kernel_rfl)
def S_i_SizeShare : FSpec where
  args := [.sc (.sl .int)]
  outs := [.sc .int]
  pre := fun a => match a with
    | [.sc (.sl .int list)] => (((list).length : Nat) : Int) ≤ 1099511627776
    | _ => False
  post := fun a r => match a, r with
    | [.sc (.sl .int list)], [.sc (.int _ n)] => n = shareD list
    | _, _ => False
  kept := false
theorem m_i_SizeShare : Meets Try.prog 34 S_i_SizeShare :=
  meets tok mixed Try.func34 (by kernel_rfl) (l := [(40, S_i_BlockPack), (63, S_i_ListValid)]) ⟨m_i_BlockPack, m_i_ListValid, trivial⟩ (ann := []) v_i_SizeShare (by kernel_rfl)
def S_s_SizeShare : FSpec where
  args := [.sc (.sl .int)]
  outs := [.sc .int]
  pre := fun a => match a with
    | [.sc (.sl .int list)] => (((list).length : Nat) : Int) ≤ 1099511627776
    | _ => False
  post := fun a r => match a, r with
    | [.sc (.sl .int list)], [.sc (.int _ n)] => n = shareD list
    | _, _ => False
  kept := false
theorem m_s_SizeShare : Meets Try.prog 33 S_s_SizeShare :=
  meets tok mixed Try.func33 (by kernel_rfl) (l := [(65, S_s_ListValid), (67, S_s_BlockPack)]) ⟨m_s_ListValid, m_s_BlockPack, trivial⟩ (ann := []) v_s_SizeShare (by kernel_rfl)
def S_s_DrawSizesOf : FSpec where
  args := [.sc (.sl .u8)]
  outs := [.sc (.own 3 .int)]
  pre := fun a => match a with
    | [.sc (.sl .u8 code)] => (((code).length : Nat) : Int) ≤ 1099511627776
    | _ => False
  post := fun a r => match a, r with
    | [.sc (.sl .u8 code)], [.sc (.sl .int out)] => (((out).length : Nat) : Int) ≤ 400
    | _, _ => False
  kept := false
theorem m_s_DrawSizesOf : Meets Try.prog 41 S_s_DrawSizesOf :=
  meets tok mixed Try.func41 (by kernel_rfl) (l := [(61, S_s_l6Open), (69, S_s_l91List)]) ⟨m_s_l6Open, m_s_l91List, trivial⟩ (ann := []) v_s_DrawSizesOf (by kernel_rfl)
def S_s_DrawSizeBest : FSpec where
  args := [.sc (.sl .u8)]
  outs := [.sc (.own 3 .int)]
  pre := fun a => match a with
    | [.sc (.sl .u8 code)] => (((code).length : Nat) : Int) ≤ 1099511627776
    | _ => False
  post := fun a r => match a, r with
    | [.sc (.sl .u8 code)], [.sc (.sl .int out)] => (((out).length : Nat) : Int) ≤ 400
    | _, _ => False
  kept := false
theorem m_s_DrawSizeBest : Meets Try.prog 45 S_s_DrawSizeBest :=
  meets tok mixed Try.func45 (by kernel_rfl) (l := [(61, S_s_l6Open), (69, S_s_l91List)]) ⟨m_s_l6Open, m_s_l91List, trivial⟩ (ann := []) v_s_DrawSizeBest (by kernel_rfl)
def S_s_DrawSizeShare : FSpec where
  args := [.sc (.sl .u8)]
  outs := [.sc (.own 3 .int)]
  pre := fun a => match a with
    | [.sc (.sl .u8 code)] => (((code).length : Nat) : Int) ≤ 1099511627776
    | _ => False
  post := fun a r => match a, r with
    | [.sc (.sl .u8 code)], [.sc (.sl .int out)] => (((out).length : Nat) : Int) ≤ 400
    | _, _ => False
  kept := false
theorem m_s_DrawSizeShare : Meets Try.prog 39 S_s_DrawSizeShare :=
  meets tok mixed Try.func39 (by kernel_rfl) (l := [(61, S_s_l6Open), (69, S_s_l91List)]) ⟨m_s_l6Open, m_s_l91List, trivial⟩ (ann := []) v_s_DrawSizeShare (by kernel_rfl)
end Go.Proofs.Ytmfamcaiimhaeaa
