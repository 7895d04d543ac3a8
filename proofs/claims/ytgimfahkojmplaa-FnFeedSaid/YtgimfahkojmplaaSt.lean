/-
  Functions meet their contracts: t_stream.
-/
import Derived.Test.YtgimfahkojmplaaT
import Derived.Test.YtgimfahkojmplaaVt
import Derived.Test.YtgimfahkojmplaaSa
import Derived.Test.YtgimfahkojmplaaSb
import Derived.Test.YtgimfahkojmplaaSf
import Derived.Test.YtgimfahkojmplaaSl
import Derived.Test.YtgimfahkojmplaaSm
import Derived.Test.YtgimfahkojmplaaSn
import Derived.Test.YtgimfahkojmplaaSp
import Derived.Test.YtgimfahkojmplaaSr
import Derived.Test.YtgimfahkojmplaaSs
set_option linter.unusedVariables false
set_option linter.unusedSimpArgs false
open Go Go.Ax Go.Mx
namespace Go.Proofs.Ytgimfahkojmplaa
def S_i_TextValid : FSpec where
  args := [.sc (.sl .int)]
  outs := [.sc .bool]
  pre := fun a => match a with
    | [.sc (.sl .int text)] => (((text).length : Nat) : Int) ≤ 1099511627776
    | _ => False
  post := fun a r => match a, r with
    | [.sc (.sl .int text)], [.sc (.bool r)] => r = textOk text
    | _, _ => False
  kept := false
theorem m_i_TextValid : Meets Try.prog 41 S_i_TextValid :=
  meets tok mixed Try.func41 (by kernel_rfl) (l := [(49, S_i_every)]) ⟨m_i_every, trivial⟩ (ann := []) v_i_TextValid (by kernel_rfl)
def S_s_l22Symbols : FSpec where
  args := [.sc (.sl .int)]
  outs := [.sc .bool]
  pre := fun a => match a with
    | [.sc (.sl .int text)] => (((text).length : Nat) : Int) ≤ 1099511627776
    | _ => False
  post := fun a r => match a, r with
    | [.sc (.sl .int text)], [.sc (.bool r)] => r = allIn 0 7 text
    | _, _ => False
  kept := false
theorem m_s_l22Symbols : Meets Try.prog 54 S_s_l22Symbols :=
  meets tok mixed Try.func54 (by kernel_rfl) (l := [(47, S_s_l6In)]) ⟨m_s_l6In, trivial⟩ (ann := [(2, [.slot 3 .int])]) v_s_l22Symbols (by kernel_rfl)
def S_s_TextValid : FSpec where
  args := [.sc (.sl .int)]
  outs := [.sc .bool]
  pre := fun a => match a with
    | [.sc (.sl .int text)] => (((text).length : Nat) : Int) ≤ 1099511627776
    | _ => False
  post := fun a r => match a, r with
    | [.sc (.sl .int text)], [.sc (.bool r)] => r = textOk text
    | _, _ => False
  kept := false
theorem m_s_TextValid : Meets Try.prog 42 S_s_TextValid :=
  meets tok mixed Try.func42 (by kernel_rfl) (l := [(54, S_s_l22Symbols)]) ⟨m_s_l22Symbols, trivial⟩ (ann := []) v_s_TextValid (by kernel_rfl)
def S_i_needed : FSpec where
  args := [.sc (.sl .int)]
  outs := [.sc .int, .sc .bool]
  pre := fun a => match a with
    | [.sc (.sl .int bytes)] => (((bytes).length : Nat) : Int) ≤ 1099511627776 ∧ allIn 0 255 bytes = true
    | _ => False
  post := fun a r => match a, r with
    | [.sc (.sl .int bytes)], [.sc (.int _ n), .sc (.bool ok)] => ok = decide (0 ≤ needD bytes) ∧ (ok = true → n = needD bytes)
    | _, _ => False
  kept := false
theorem m_i_needed : Meets Try.prog 50 S_i_needed :=
  meets tok mixed Try.func50 (by kernel_rfl) (l := [(60, S_i_lengthsIn4), (61, S_i_CodesOf), (62, S_i_firstBits), (63, S_i_symbolAt)]) ⟨m_i_lengthsIn4, m_i_CodesOf, m_i_firstBits, m_i_symbolAt, trivial⟩ (ann := [(22, [.slot 9 .int, .slot 64 .int])]) v_i_needed (by kernel_rfl)
def S_s_l21NeedPrefix : FSpec where
  args := [.sc (.sl .int)]
  outs := [.sc .int]
  pre := fun a => match a with
    | [.sc (.sl .int bytes)] => (((bytes).length : Nat) : Int) ≤ 1099511627776 ∧ allIn 0 255 bytes = true ∧ 2 ≤ (((bytes).length : Nat) : Int) ∧ bytes.getD 1 0 ≤ 40
    | _ => False
  post := fun a r => match a, r with
    | [.sc (.sl .int bytes)], [.sc (.int _ n)] => n = (if bytes.getD 1 0 = 0 then -1 else needP bytes)
    | _, _ => False
  kept := false
theorem m_s_l21NeedPrefix : Meets Try.prog 74 S_s_l21NeedPrefix :=
  meets tok mixed Try.func74 (by kernel_rfl) (l := [(92, S_s_LengthsValid), (93, S_s_CodesOf), (94, S_s_l1Put), (95, S_s_l12Symbol)]) ⟨m_s_LengthsValid, m_s_CodesOf, m_s_l1Put, m_s_l12Symbol, trivial⟩ (ann := [(7, [.slot 3 (.own 3 .int), .slot 4 .int]), (15, [.slot 6 (.own 3 .int), .slot 7 .int]), (20, [.slot 8 .int, .slot 9 .int])]) v_s_l21NeedPrefix (by kernel_rfl)
def S_s_l21Need : FSpec where
  args := [.sc (.sl .int)]
  outs := [.sc .int]
  pre := fun a => match a with
    | [.sc (.sl .int bytes)] => (((bytes).length : Nat) : Int) ≤ 1099511627776 ∧ allIn 0 255 bytes = true
    | _ => False
  post := fun a r => match a, r with
    | [.sc (.sl .int bytes)], [.sc (.int _ n)] => n = (if (((bytes).length : Nat) : Int) = 0 then 1 else needD bytes)
    | _, _ => False
  kept := false
theorem m_s_l21Need : Meets Try.prog 55 S_s_l21Need :=
  meets tok mixed Try.func55 (by kernel_rfl) (l := [(74, S_s_l21NeedPrefix)]) ⟨m_s_l21NeedPrefix, trivial⟩ (ann := []) v_s_l21Need (by kernel_rfl)
def S_i_BlockState : FSpec where
  args := [.sc (.sl .int)]
  outs := [.sc .int]
  pre := fun a => match a with
    | [.sc (.sl .int bytes)] => (((bytes).length : Nat) : Int) ≤ 1099511627776
    | _ => False
  post := fun a r => match a, r with
    | [.sc (.sl .int bytes)], [.sc (.int _ r)] => r = stateB bytes
    | _, _ => False
  kept := false
theorem m_i_BlockState : Meets Try.prog 36 S_i_BlockState :=
  meets tok mixed Try.func36 (by kernel_rfl) (l := [(34, S_i_bytesOk), (37, S_i_BlockOpen), (50, S_i_needed)]) ⟨m_i_bytesOk, m_i_BlockOpen, m_i_needed, trivial⟩ (ann := []) v_i_BlockState (by kernel_rfl)
def S_s_BlockState : FSpec where
  args := [.sc (.sl .int)]
  outs := [.sc .int]
  pre := fun a => match a with
    | [.sc (.sl .int bytes)] => (((bytes).length : Nat) : Int) ≤ 1099511627776
    | _ => False
  post := fun a r => match a, r with
    | [.sc (.sl .int bytes)], [.sc (.int _ r)] => r = stateB bytes
    | _, _ => False
  kept := false
theorem m_s_BlockState : Meets Try.prog 43 S_s_BlockState :=
  meets tok mixed Try.func43 (by kernel_rfl) (l := [(32, S_s_l1Bytes), (48, S_s_BlockOpen), (55, S_s_l21Need)]) ⟨m_s_l1Bytes, m_s_BlockOpen, m_s_l21Need, trivial⟩ (ann := []) v_s_BlockState (by kernel_rfl)
def S_i_StreamValid : FSpec where
  args := [.agg [.sl .int, .sl .int, .bool]]
  outs := [.sc .bool]
  pre := fun a => match a with
    | [.agg [.sl .int w, .sl .int t, .bool bad]] => (((w).length : Nat) : Int) ≤ 1099511627776 ∧ (((t).length : Nat) : Int) ≤ 1099511627776
    | _ => False
  post := fun a r => match a, r with
    | [.agg [.sl .int w, .sl .int t, .bool bad]], [.sc (.bool r)] => r = rdOk w t bad
    | _, _ => False
  kept := false
theorem m_i_StreamValid : Meets Try.prog 22 S_i_StreamValid :=
  meets tok mixed Try.func22 (by kernel_rfl) (l := [(34, S_i_bytesOk), (36, S_i_BlockState), (41, S_i_TextValid)]) ⟨m_i_bytesOk, m_i_BlockState, m_i_TextValid, trivial⟩ (ann := []) v_i_StreamValid (by kernel_rfl)
def S_s_StreamValid : FSpec where
  args := [.agg [.sl .int, .sl .int, .bool]]
  outs := [.sc .bool]
  pre := fun a => match a with
    | [.agg [.sl .int w, .sl .int t, .bool bad]] => (((w).length : Nat) : Int) ≤ 1099511627776 ∧ (((t).length : Nat) : Int) ≤ 1099511627776
    | _ => False
  post := fun a r => match a, r with
    | [.agg [.sl .int w, .sl .int t, .bool bad]], [.sc (.bool r)] => r = rdOk w t bad
    | _, _ => False
  kept := false
theorem m_s_StreamValid : Meets Try.prog 23 S_s_StreamValid :=
  meets tok mixed Try.func23 (by kernel_rfl) (l := [(32, S_s_l1Bytes), (42, S_s_TextValid), (43, S_s_BlockState)]) ⟨m_s_l1Bytes, m_s_TextValid, m_s_BlockState, trivial⟩ (ann := []) v_s_StreamValid (by kernel_rfl)
def S_s_l32Read : FSpec where
  args := [.agg [.own 3 .int, .own 3 .int, .bool]]
  outs := [.agg [.own 3 .int, .own 3 .int, .bool]]
  pre := fun a => match a with
    | [.agg [.sl .int w, .sl .int t, .bool bad]] => (((w).length : Nat) : Int) ≤ 100000000000 ∧ allIn 0 255 w = true ∧ textOk t = true ∧ bad = false
    | _ => False
  post := fun a r => match a, r with
    | [.agg [.sl .int w, .sl .int t, .bool bad]], [.agg [.sl .int w2, .sl .int t2, .bool bad2]] => (w2, t2, bad2) = feed t w
    | _, _ => False
  kept := false
theorem m_s_l32Read : Meets Try.prog 33 S_s_l32Read :=
  meets tok mixed Try.func33 (by kernel_rfl) (l := [(43, S_s_BlockState), (48, S_s_BlockOpen)]) ⟨m_s_BlockState, m_s_BlockOpen, trivial⟩ (ann := [(1, [.box 1 [.own 3 .int, .own 3 .int, .bool]])]) v_s_l32Read (by kernel_rfl)
def S_i_StreamFeed : FSpec where
  args := [.agg [.sl .int, .sl .int, .bool], .sc (.sl .int)]
  outs := [.agg [.own 3 .int, .own 3 .int, .bool], .sc .bool]
  pre := fun a => match a with
    | [.agg [.sl .int w, .sl .int t, .bool bad], .sc (.sl .int bytes)] => (((w).length : Nat) : Int) ≤ 10000000000 ∧ (((t).length : Nat) : Int) ≤ 10000000000 ∧ (((bytes).length : Nat) : Int) ≤ 10000000000
    | _ => False
  post := fun a r => match a, r with
    | [.agg [.sl .int w, .sl .int t, .bool bad], .sc (.sl .int bytes)], [.agg [.sl .int w2, .sl .int t2, .bool bad2], .sc (.bool ok)] => Fed w t bad bytes ok w2 t2 bad2
    | _, _ => False
  kept := false
theorem m_i_StreamFeed : Meets Try.prog 15 S_i_StreamFeed :=
  meets tok mixed Try.func15 (by kernel_rfl) (l := [(22, S_i_StreamValid), (34, S_i_bytesOk), (35, S_i_cloned), (36, S_i_BlockState), (37, S_i_BlockOpen)]) ⟨m_i_StreamValid, m_i_bytesOk, m_i_cloned, m_i_BlockState, m_i_BlockOpen, trivial⟩ (ann := [(7, [.box 4 [.sl .int, .sl .int, .bool], .box 6 [.own 3 .int, .own 3 .int, .bool]])]) v_i_StreamFeed (by kernel_rfl)
def S_s_StreamFeed : FSpec where
  args := [.agg [.sl .int, .sl .int, .bool], .sc (.sl .int)]
  outs := [.agg [.own 3 .int, .own 3 .int, .bool], .sc .bool]
  pre := fun a => match a with
    | [.agg [.sl .int w, .sl .int t, .bool bad], .sc (.sl .int bytes)] => (((w).length : Nat) : Int) ≤ 10000000000 ∧ (((t).length : Nat) : Int) ≤ 10000000000 ∧ (((bytes).length : Nat) : Int) ≤ 10000000000
    | _ => False
  post := fun a r => match a, r with
    | [.agg [.sl .int w, .sl .int t, .bool bad], .sc (.sl .int bytes)], [.agg [.sl .int w2, .sl .int t2, .bool bad2], .sc (.bool ok)] => Fed w t bad bytes ok w2 t2 bad2
    | _, _ => False
  kept := false
theorem m_s_StreamFeed : Meets Try.prog 12 S_s_StreamFeed :=
  meets tok mixed Try.func12 (by kernel_rfl) (l := [(23, S_s_StreamValid), (32, S_s_l1Bytes), (33, S_s_l32Read)]) ⟨m_s_StreamValid, m_s_l1Bytes, m_s_l32Read, trivial⟩ (ann := []) v_s_StreamFeed (by kernel_rfl)
def S_i_StreamEnd : FSpec where
  args := [.agg [.sl .int, .sl .int, .bool]]
  outs := [.sc .bool]
  pre := fun a => match a with
    | [.agg [.sl .int w, .sl .int t, .bool bad]] => (((w).length : Nat) : Int) ≤ 1099511627776 ∧ (((t).length : Nat) : Int) ≤ 1099511627776
    | _ => False
  post := fun a r => match a, r with
    | [.agg [.sl .int w, .sl .int t, .bool bad]], [.sc (.bool r)] => r = (rdOk w t bad && !bad && decide ((((w).length : Nat) : Int) = 0))
    | _, _ => False
  kept := false
theorem m_i_StreamEnd : Meets Try.prog 25 S_i_StreamEnd :=
  meets tok mixed Try.func25 (by kernel_rfl) (l := [(22, S_i_StreamValid)]) ⟨m_i_StreamValid, trivial⟩ (ann := []) v_i_StreamEnd (by kernel_rfl)
def S_s_StreamEnd : FSpec where
  args := [.agg [.sl .int, .sl .int, .bool]]
  outs := [.sc .bool]
  pre := fun a => match a with
    | [.agg [.sl .int w, .sl .int t, .bool bad]] => (((w).length : Nat) : Int) ≤ 1099511627776 ∧ (((t).length : Nat) : Int) ≤ 1099511627776
    | _ => False
  post := fun a r => match a, r with
    | [.agg [.sl .int w, .sl .int t, .bool bad]], [.sc (.bool r)] => r = (rdOk w t bad && !bad && decide ((((w).length : Nat) : Int) = 0))
    | _, _ => False
  kept := false
theorem m_s_StreamEnd : Meets Try.prog 26 S_s_StreamEnd :=
  meets tok mixed Try.func26 (by kernel_rfl) (l := [(23, S_s_StreamValid)]) ⟨m_s_StreamValid, trivial⟩ (ann := []) v_s_StreamEnd (by kernel_rfl)
def S_i_StreamAll : FSpec where
  args := [.sc (.sl .int)]
  outs := [.sc (.own 3 .int), .sc .bool]
  pre := fun a => match a with
    | [.sc (.sl .int bytes)] => (((bytes).length : Nat) : Int) ≤ 10000000000
    | _ => False
  post := fun a r => match a, r with
    | [.sc (.sl .int bytes)], [.sc (.sl .int r), .sc (.bool ok)] => ok = (allD bytes).isSome ∧ r = (allD bytes).getD [] ∧ (((r).length : Nat) : Int) ≤ 120
    | _, _ => False
  kept := false
theorem m_i_StreamAll : Meets Try.prog 27 S_i_StreamAll :=
  meets tok mixed Try.func27 (by kernel_rfl) (l := [(15, S_i_StreamFeed), (25, S_i_StreamEnd)]) ⟨m_i_StreamFeed, m_i_StreamEnd, trivial⟩ (ann := []) v_i_StreamAll (by kernel_rfl)
def S_s_l92Block : FSpec where
  args := [.box [.sl .u8, .int]]
  outs := [.sc (.own 3 .int)]
  pre := fun a => match a with
    | [.agg [.sl .u8 b, .int _ p]] => (((b).length : Nat) : Int) ≤ 1099511627776 ∧ 0 ≤ p ∧ p ≤ 800000000
    | _ => False
  post := fun a r => match a, r with
    | [.agg [.sl .u8 b, .int _ p]], [.agg [.sl .u8 b', .int _ p'], .sc (.sl .int out)] => b = b' ∧ p ≤ p' ∧ p' ≤ p + 10010 ∧ (((out).length : Nat) : Int) ≤ 82
    | _, _ => False
  kept := true
theorem m_s_l92Block : Meets Try.prog 56 S_s_l92Block :=
  meets tok mixed Try.func56 (by kernel_rfl) (l := [(44, S_s_pick), (75, S_s_l91List), (76, S_s_BlockAs), (77, S_s_BlockPack)]) ⟨m_s_pick, m_s_l91List, m_s_BlockAs, m_s_BlockPack, trivial⟩ (ann := []) v_s_l92Block (by kernel_rfl)
def S_s_l92Blocks : FSpec where
  args := [.box [.sl .u8, .int]]
  outs := [.sc (.own 3 .int)]
  pre := fun a => match a with
    | [.agg [.sl .u8 b, .int _ p]] => (((b).length : Nat) : Int) ≤ 1099511627776 ∧ 0 ≤ p ∧ p ≤ 700000000
    | _ => False
  post := fun a r => match a, r with
    | [.agg [.sl .u8 b, .int _ p]], [.agg [.sl .u8 b', .int _ p'], .sc (.sl .int out)] => b = b' ∧ p ≤ p' ∧ p' ≤ p + 100000 ∧ (((out).length : Nat) : Int) ≤ 800
    | _, _ => False
  kept := true
theorem m_s_l92Blocks : Meets Try.prog 45 S_s_l92Blocks :=
  meets tok mixed Try.func45 (by kernel_rfl) (l := [(44, S_s_pick), (56, S_s_l92Block)]) ⟨m_s_pick, m_s_l92Block, trivial⟩ (ann := [(6, [.slot 3 (.own 3 .int), .slot 5 .int, .box 0 [.sl .u8, .int]])]) v_s_l92Blocks (by kernel_rfl)
def S_s_l92Stream : FSpec where
  args := [.box [.sl .u8, .int]]
  outs := [.agg [.own 3 .int, .own 3 .int, .bool]]
  pre := fun a => match a with
    | [.agg [.sl .u8 b, .int _ p]] => (((b).length : Nat) : Int) ≤ 1099511627776 ∧ 0 ≤ p ∧ p ≤ 600000000
    | _ => False
  post := fun a r => match a, r with
    | [.agg [.sl .u8 b, .int _ p]], [.agg [.sl .u8 b', .int _ p'], .agg [.sl .int w, .sl .int t, .bool bad]] => b = b' ∧ p ≤ p' ∧ p' ≤ p + 200000 ∧ (((w).length : Nat) : Int) ≤ 6000 ∧ (((t).length : Nat) : Int) ≤ 200
    | _, _ => False
  kept := true
theorem m_s_l92Stream : Meets Try.prog 39 S_s_l92Stream :=
  meets tok mixed Try.func39 (by kernel_rfl) (l := [(12, S_s_StreamFeed), (44, S_s_pick), (45, S_s_l92Blocks), (46, S_s_l92Damage)]) ⟨m_s_StreamFeed, m_s_pick, m_s_l92Blocks, m_s_l92Damage, trivial⟩ (ann := []) v_s_l92Stream (by kernel_rfl)
def S_s_DrawStreamValid : FSpec where
  args := [.sc (.sl .u8)]
  outs := [.agg [.own 3 .int, .own 3 .int, .bool]]
  pre := fun a => match a with
    | [.sc (.sl .u8 code)] => (((code).length : Nat) : Int) ≤ 1099511627776
    | _ => False
  post := fun a r => match a, r with
    | [.sc (.sl .u8 code)], [.agg [.sl .int w, .sl .int t, .bool bad]] => (((w).length : Nat) : Int) ≤ 6000 ∧ (((t).length : Nat) : Int) ≤ 200
    | _, _ => False
  kept := false
theorem m_s_DrawStreamValid : Meets Try.prog 21 S_s_DrawStreamValid :=
  meets tok mixed Try.func21 (by kernel_rfl) (l := [(39, S_s_l92Stream), (40, S_s_l6Open)]) ⟨m_s_l92Stream, m_s_l6Open, trivial⟩ (ann := []) v_s_DrawStreamValid (by kernel_rfl)
def S_s_DrawStreamFeed : FSpec where
  args := [.sc (.sl .u8)]
  outs := [.agg [.own 3 .int, .own 3 .int, .bool], .sc (.sl .int)]
  pre := fun a => match a with
    | [.sc (.sl .u8 code)] => (((code).length : Nat) : Int) ≤ 1099511627776
    | _ => False
  post := fun a r => match a, r with
    | [.sc (.sl .u8 code)], [.agg [.sl .int w, .sl .int t, .bool bad], .sc (.sl .int bytes)] => (((w).length : Nat) : Int) ≤ 6000 ∧ (((t).length : Nat) : Int) ≤ 200 ∧ (((bytes).length : Nat) : Int) ≤ 6000
    | _, _ => False
  kept := true
theorem m_s_DrawStreamFeed : Meets Try.prog 28 S_s_DrawStreamFeed :=
  meets tok mixed Try.func28 (by kernel_rfl) (l := [(39, S_s_l92Stream), (40, S_s_l6Open), (45, S_s_l92Blocks), (46, S_s_l92Damage)]) ⟨m_s_l92Stream, m_s_l6Open, m_s_l92Blocks, m_s_l92Damage, trivial⟩ (ann := []) v_s_DrawStreamFeed (by kernel_rfl)
def S_s_DrawStreamEnd : FSpec where
  args := [.sc (.sl .u8)]
  outs := [.agg [.own 3 .int, .own 3 .int, .bool]]
  pre := fun a => match a with
    | [.sc (.sl .u8 code)] => (((code).length : Nat) : Int) ≤ 1099511627776
    | _ => False
  post := fun a r => match a, r with
    | [.sc (.sl .u8 code)], [.agg [.sl .int w, .sl .int t, .bool bad]] => (((w).length : Nat) : Int) ≤ 6000 ∧ (((t).length : Nat) : Int) ≤ 200
    | _, _ => False
  kept := false
theorem m_s_DrawStreamEnd : Meets Try.prog 24 S_s_DrawStreamEnd :=
  meets tok mixed Try.func24 (by kernel_rfl) (l := [(12, S_s_StreamFeed), (39, S_s_l92Stream), (40, S_s_l6Open), (44, S_s_pick), (45, S_s_l92Blocks)]) ⟨m_s_StreamFeed, m_s_l92Stream, m_s_l6Open, m_s_pick, m_s_l92Blocks, trivial⟩ (ann := []) v_s_DrawStreamEnd (by kernel_rfl)
def S_l_sameStream : FSpec where
  args := [.agg [.sl .int, .sl .int, .bool], .agg [.sl .int, .sl .int, .bool]]
  outs := [.sc .bool]
  pre := fun a => match a with
    | [.agg [.sl .int w, .sl .int t, .bool bad], .agg [.sl .int w2, .sl .int t2, .bool bad2]] => (((w).length : Nat) : Int) ≤ 1099511627776 ∧ (((t).length : Nat) : Int) ≤ 1099511627776 ∧ (((w2).length : Nat) : Int) ≤ 1099511627776 ∧ (((t2).length : Nat) : Int) ≤ 1099511627776
    | _ => False
  post := fun a r => match a, r with
    | [.agg [.sl .int w, .sl .int t, .bool bad], .agg [.sl .int w2, .sl .int t2, .bool bad2]], [.sc (.bool r)] => r = decide ((w, t, bad) = (w2, t2, bad2))
    | _, _ => False
  kept := false
theorem m_l_sameStream : Meets Try.prog 29 S_l_sameStream :=
  meets tok mixed Try.func29 (by kernel_rfl) (l := [(30, S_l_sameInts)]) ⟨m_l_sameInts, trivial⟩ (ann := []) v_l_sameStream (by kernel_rfl)
end Go.Proofs.Ytgimfahkojmplaa
