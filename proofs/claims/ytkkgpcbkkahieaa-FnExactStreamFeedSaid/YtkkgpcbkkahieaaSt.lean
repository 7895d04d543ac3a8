/-
  Functions meet their contracts: t_stream.
-/
import Derived.Test.YtkkgpcbkkahieaaT
import Derived.Test.YtkkgpcbkkahieaaVt
import Derived.Test.YtkkgpcbkkahieaaSa
import Derived.Test.YtkkgpcbkkahieaaSl
import Derived.Test.YtkkgpcbkkahieaaSm
import Derived.Test.YtkkgpcbkkahieaaSn
import Derived.Test.YtkkgpcbkkahieaaSr
set_option linter.unusedVariables false
set_option linter.unusedSimpArgs false
open Go Go.Ax Go.Mx
namespace Go.Proofs.Ytkkgpcbkkahieaa
def S_i_TextValid : FSpec where
  args := [.sc (.sl .int)]
  outs := [.sc .bool]
  pre := fun a => match a with
    | [.sc (.sl .int text)] => (((text).length : Nat) : Int) ≤ 1099511627776
    | _ => False
  post := fun a r => match a, r with
    | [.sc (.sl .int text)], [.sc (.bool r)] => r = textOk text
    | _, _ => False
  kept := false
theorem m_i_TextValid : Meets Try.prog 56 S_i_TextValid :=
  meets tok mixed Try.func56 (by kernel_rfl) (l := [(52, S_i_every)]) ⟨m_i_every, trivial⟩ (ann := []) v_i_TextValid (by kernel_rfl)
def S_s_l22Symbols : FSpec where
  args := [.sc (.sl .int)]
  outs := [.sc .bool]
  pre := fun a => match a with
    | [.sc (.sl .int text)] => (((text).length : Nat) : Int) ≤ 1099511627776
    | _ => False
  post := fun a r => match a, r with
    | [.sc (.sl .int text)], [.sc (.bool r)] => r = allIn 0 7 text
    | _, _ => False
  kept := false
theorem m_s_l22Symbols : Meets Try.prog 72 S_s_l22Symbols :=
  meets tok mixed Try.func72 (by kernel_rfl) (l := [(45, S_s_l6In)]) ⟨m_s_l6In, trivial⟩ (ann := [(2, [.slot 3 .int])]) v_s_l22Symbols (by kernel_rfl)
def S_s_TextValid : FSpec where
  args := [.sc (.sl .int)]
  outs := [.sc .bool]
  pre := fun a => match a with
    | [.sc (.sl .int text)] => (((text).length : Nat) : Int) ≤ 1099511627776
    | _ => False
  post := fun a r => match a, r with
    | [.sc (.sl .int text)], [.sc (.bool r)] => r = textOk text
    | _, _ => False
  kept := false
theorem m_s_TextValid : Meets Try.prog 54 S_s_TextValid :=
  meets tok mixed Try.func54 (by kernel_rfl) (l := [(72, S_s_l22Symbols)]) ⟨m_s_l22Symbols, trivial⟩ (ann := []) v_s_TextValid (by kernel_rfl)
def S_i_needed : FSpec where
  args := [.sc (.sl .int)]
  outs := [.sc .int, .sc .bool]
  pre := fun a => match a with
    | [.sc (.sl .int bytes)] => (((bytes).length : Nat) : Int) ≤ 1099511627776 ∧ allIn 0 255 bytes = true
    | _ => False
  post := fun a r => match a, r with
    | [.sc (.sl .int bytes)], [.sc (.int _ n), .sc (.bool ok)] => ok = decide (0 ≤ needD bytes) ∧ (ok = true → n = needD bytes)
    | _, _ => False
  kept := false
theorem m_i_needed : Meets Try.prog 57 S_i_needed :=
  meets tok mixed Try.func57 (by kernel_rfl) (l := [(69, S_i_firstBits), (70, S_i_lengthsIn4), (74, S_i_CodesOf), (75, S_i_symbolAt)]) ⟨m_i_firstBits, m_i_lengthsIn4, m_i_CodesOf, m_i_symbolAt, trivial⟩ (ann := [(22, [.slot 9 .int, .slot 64 .int])]) v_i_needed (by kernel_rfl)
def S_s_l21NeedPrefix : FSpec where
  args := [.sc (.sl .int)]
  outs := [.sc .int]
  pre := fun a => match a with
    | [.sc (.sl .int bytes)] => (((bytes).length : Nat) : Int) ≤ 1099511627776 ∧ allIn 0 255 bytes = true ∧ 2 ≤ (((bytes).length : Nat) : Int) ∧ bytes.getD 1 0 ≤ 40
    | _ => False
  post := fun a r => match a, r with
    | [.sc (.sl .int bytes)], [.sc (.int _ n)] => n = (if bytes.getD 1 0 = 0 then -1 else needP bytes)
    | _, _ => False
  kept := false
theorem m_s_l21NeedPrefix : Meets Try.prog 88 S_s_l21NeedPrefix :=
  meets tok mixed Try.func88 (by kernel_rfl) (l := [(96, S_s_l1Put), (99, S_s_LengthsValid), (100, S_s_CodesOf), (101, S_s_l12Symbol)]) ⟨m_s_l1Put, m_s_LengthsValid, m_s_CodesOf, m_s_l12Symbol, trivial⟩ (ann := [(7, [.slot 3 (.own 3 .int), .slot 4 .int]), (15, [.slot 6 (.own 3 .int), .slot 7 .int]), (20, [.slot 8 .int, .slot 9 .int])]) v_s_l21NeedPrefix (by kernel_rfl)
def S_s_l21Need : FSpec where
  args := [.sc (.sl .int)]
  outs := [.sc .int]
  pre := fun a => match a with
    | [.sc (.sl .int bytes)] => (((bytes).length : Nat) : Int) ≤ 1099511627776 ∧ allIn 0 255 bytes = true
    | _ => False
  post := fun a r => match a, r with
    | [.sc (.sl .int bytes)], [.sc (.int _ n)] => n = (if (((bytes).length : Nat) : Int) = 0 then 1 else needD bytes)
    | _, _ => False
  kept := false
theorem m_s_l21Need : Meets Try.prog 73 S_s_l21Need :=
  meets tok mixed Try.func73 (by kernel_rfl) (l := [(88, S_s_l21NeedPrefix)]) ⟨m_s_l21NeedPrefix, trivial⟩ (ann := []) v_s_l21Need (by kernel_rfl)
def S_i_BlockState : FSpec where
  args := [.sc (.sl .int)]
  outs := [.sc .int]
  pre := fun a => match a with
    | [.sc (.sl .int bytes)] => (((bytes).length : Nat) : Int) ≤ 1099511627776
    | _ => False
  post := fun a r => match a, r with
    | [.sc (.sl .int bytes)], [.sc (.int _ r)] => r = stateB bytes
    | _, _ => False
  kept := false
theorem m_i_BlockState : Meets Try.prog 44 S_i_BlockState :=
  meets tok mixed Try.func44 (by kernel_rfl) (l := [(36, S_i_bytesOk), (37, S_i_BlockOpen), (57, S_i_needed)]) ⟨m_i_bytesOk, m_i_BlockOpen, m_i_needed, trivial⟩ (ann := []) v_i_BlockState (by kernel_rfl)
def S_s_BlockState : FSpec where
  args := [.sc (.sl .int)]
  outs := [.sc .int]
  pre := fun a => match a with
    | [.sc (.sl .int bytes)] => (((bytes).length : Nat) : Int) ≤ 1099511627776
    | _ => False
  post := fun a r => match a, r with
    | [.sc (.sl .int bytes)], [.sc (.int _ r)] => r = stateB bytes
    | _, _ => False
  kept := false
theorem m_s_BlockState : Meets Try.prog 55 S_s_BlockState :=
  meets tok mixed Try.func55 (by kernel_rfl) (l := [(33, S_s_l1Bytes), (51, S_s_BlockOpen), (73, S_s_l21Need)]) ⟨m_s_l1Bytes, m_s_BlockOpen, m_s_l21Need, trivial⟩ (ann := []) v_s_BlockState (by kernel_rfl)
def S_i_StreamValid : FSpec where
  args := [.agg [.sl .int, .sl .int, .bool]]
  outs := [.sc .bool]
  pre := fun a => match a with
    | [.agg [.sl .int w, .sl .int t, .bool bad]] => (((w).length : Nat) : Int) ≤ 1099511627776 ∧ (((t).length : Nat) : Int) ≤ 1099511627776
    | _ => False
  post := fun a r => match a, r with
    | [.agg [.sl .int w, .sl .int t, .bool bad]], [.sc (.bool r)] => r = rdOk w t bad
    | _, _ => False
  kept := false
theorem m_i_StreamValid : Meets Try.prog 42 S_i_StreamValid :=
  meets tok mixed Try.func42 (by kernel_rfl) (l := [(36, S_i_bytesOk), (44, S_i_BlockState), (56, S_i_TextValid)]) ⟨m_i_bytesOk, m_i_BlockState, m_i_TextValid, trivial⟩ (ann := []) v_i_StreamValid (by kernel_rfl)
def S_s_StreamValid : FSpec where
  args := [.agg [.sl .int, .sl .int, .bool]]
  outs := [.sc .bool]
  pre := fun a => match a with
    | [.agg [.sl .int w, .sl .int t, .bool bad]] => (((w).length : Nat) : Int) ≤ 1099511627776 ∧ (((t).length : Nat) : Int) ≤ 1099511627776
    | _ => False
  post := fun a r => match a, r with
    | [.agg [.sl .int w, .sl .int t, .bool bad]], [.sc (.bool r)] => r = rdOk w t bad
    | _, _ => False
  kept := false
theorem m_s_StreamValid : Meets Try.prog 40 S_s_StreamValid :=
  meets tok mixed Try.func40 (by kernel_rfl) (l := [(33, S_s_l1Bytes), (54, S_s_TextValid), (55, S_s_BlockState)]) ⟨m_s_l1Bytes, m_s_TextValid, m_s_BlockState, trivial⟩ (ann := []) v_s_StreamValid (by kernel_rfl)
def S_s_l32Read : FSpec where
  args := [.agg [.own 3 .int, .own 3 .int, .bool]]
  outs := [.agg [.own 3 .int, .own 3 .int, .bool]]
  pre := fun a => match a with
    | [.agg [.sl .int w, .sl .int t, .bool bad]] => (((w).length : Nat) : Int) ≤ 100000000000 ∧ allIn 0 255 w = true ∧ textOk t = true ∧ bad = false
    | _ => False
  post := fun a r => match a, r with
    | [.agg [.sl .int w, .sl .int t, .bool bad]], [.agg [.sl .int w2, .sl .int t2, .bool bad2]] => (w2, t2, bad2) = feed t w
    | _, _ => False
  kept := false
theorem m_s_l32Read : Meets Try.prog 41 S_s_l32Read :=
  meets tok mixed Try.func41 (by kernel_rfl) (l := [(51, S_s_BlockOpen), (55, S_s_BlockState)]) ⟨m_s_BlockOpen, m_s_BlockState, trivial⟩ (ann := [(1, [.box 1 [.own 3 .int, .own 3 .int, .bool]])]) v_s_l32Read (by kernel_rfl)
def S_i_StreamFeed : FSpec where
  args := [.agg [.sl .int, .sl .int, .bool], .sc (.sl .int)]
  outs := [.agg [.own 3 .int, .own 3 .int, .bool], .sc .bool]
  pre := fun a => match a with
    | [.agg [.sl .int w, .sl .int t, .bool bad], .sc (.sl .int bytes)] => (((w).length : Nat) : Int) ≤ 10000000000 ∧ (((t).length : Nat) : Int) ≤ 10000000000 ∧ (((bytes).length : Nat) : Int) ≤ 10000000000
    | _ => False
  post := fun a r => match a, r with
    | [.agg [.sl .int w, .sl .int t, .bool bad], .sc (.sl .int bytes)], [.agg [.sl .int w2, .sl .int t2, .bool bad2], .sc (.bool ok)] => Fed w t bad bytes ok w2 t2 bad2
    | _, _ => False
  kept := false
  chk := fun a r => match a, r with
    | [.agg [.sl .int w, .sl .int t, .bool bad], .sc (.sl .int bytes)], [.agg [.sl .int w2, .sl .int t2, .bool bad2], .sc (.bool ok)] => bif bad then (bif ok then bad2 else !bad2) else (bif ok then true else !bad2)
    | _, _ => true
theorem m_i_StreamFeed : Meets Try.prog 22 S_i_StreamFeed :=
  meets tok mixed Try.func22 (by kernel_rfl) (l := [(36, S_i_bytesOk), (37, S_i_BlockOpen), (42, S_i_StreamValid), (43, S_i_cloned), (44, S_i_BlockState)]) ⟨m_i_bytesOk, m_i_BlockOpen, m_i_StreamValid, m_i_cloned, m_i_BlockState, trivial⟩ (ann := [(7, [.box 4 [.sl .int, .sl .int, .bool], .box 6 [.own 3 .int, .own 3 .int, .bool]])]) v_i_StreamFeed (by kernel_rfl)
def S_s_StreamFeed : FSpec where
  args := [.agg [.sl .int, .sl .int, .bool], .sc (.sl .int)]
  outs := [.agg [.own 3 .int, .own 3 .int, .bool], .sc .bool]
  pre := fun a => match a with
    | [.agg [.sl .int w, .sl .int t, .bool bad], .sc (.sl .int bytes)] => (((w).length : Nat) : Int) ≤ 10000000000 ∧ (((t).length : Nat) : Int) ≤ 10000000000 ∧ (((bytes).length : Nat) : Int) ≤ 10000000000
    | _ => False
  post := fun a r => match a, r with
    | [.agg [.sl .int w, .sl .int t, .bool bad], .sc (.sl .int bytes)], [.agg [.sl .int w2, .sl .int t2, .bool bad2], .sc (.bool ok)] => Fed w t bad bytes ok w2 t2 bad2
    | _, _ => False
  kept := false
  chk := fun a r => match a, r with
    | [.agg [.sl .int w, .sl .int t, .bool bad], .sc (.sl .int bytes)], [.agg [.sl .int w2, .sl .int t2, .bool bad2], .sc (.bool ok)] => bif bad then (bif ok then bad2 else !bad2) else (bif ok then true else !bad2)
    | _, _ => true
theorem m_s_StreamFeed : Meets Try.prog 20 S_s_StreamFeed :=
  meets tok mixed Try.func20 (by kernel_rfl) (l := [(33, S_s_l1Bytes), (40, S_s_StreamValid), (41, S_s_l32Read)]) ⟨m_s_l1Bytes, m_s_StreamValid, m_s_l32Read, trivial⟩ (ann := []) v_s_StreamFeed (by kernel_rfl)
end Go.Proofs.Ytkkgpcbkkahieaa
