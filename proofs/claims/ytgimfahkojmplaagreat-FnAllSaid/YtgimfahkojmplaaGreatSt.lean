/-
  Functions meet their contracts: t_stream.
-/
import Derived.Test.YtgimfahkojmplaaGreatT
import Derived.Test.YtgimfahkojmplaaGreatVt
import Derived.Test.YtgimfahkojmplaaGreatSa
import Derived.Test.YtgimfahkojmplaaGreatSb
import Derived.Test.YtgimfahkojmplaaGreatSl
import Derived.Test.YtgimfahkojmplaaGreatSm
import Derived.Test.YtgimfahkojmplaaGreatSn
import Derived.Test.YtgimfahkojmplaaGreatSp
import Derived.Test.YtgimfahkojmplaaGreatSr
import Derived.Test.YtgimfahkojmplaaGreatSs
set_option linter.unusedVariables false
set_option linter.unusedSimpArgs false
open Go Go.Ax Go.Mx
namespace Go.Proofs.YtgimfahkojmplaaGreat
def S_i_TextValid : FSpec where
  args := [.sc (.sl .int)]
  outs := [.sc .bool]
  pre := fun a => match a with
    | [.sc (.sl .int text)] => (((text).length : Nat) : Int) ≤ 1099511627776
    | _ => False
  post := fun a r => match a, r with
    | [.sc (.sl .int text)], [.sc (.bool r)] => r = textOk text
    | _, _ => False
  kept := false
theorem m_i_TextValid : Meets Tryz.prog 12 S_i_TextValid :=
  meets tok mixed Tryz.func12 (by kernel_rfl) (l := [(26, S_i_every)]) ⟨m_i_every, trivial⟩ (ann := []) v_i_TextValid (by kernel_rfl)
def S_s_l22Symbols : FSpec where
  args := [.sc (.sl .int)]
  outs := [.sc .bool]
  pre := fun a => match a with
    | [.sc (.sl .int text)] => (((text).length : Nat) : Int) ≤ 1099511627776
    | _ => False
  post := fun a r => match a, r with
    | [.sc (.sl .int text)], [.sc (.bool r)] => r = allIn 0 7 text
    | _, _ => False
  kept := false
theorem m_s_l22Symbols : Meets Tryz.prog 66 S_s_l22Symbols :=
  meets tok mixed Tryz.func66 (by kernel_rfl) (l := [(54, S_s_l6In)]) ⟨m_s_l6In, trivial⟩ (ann := [(2, [.slot 3 .int])]) v_s_l22Symbols (by kernel_rfl)
def S_s_TextValid : FSpec where
  args := [.sc (.sl .int)]
  outs := [.sc .bool]
  pre := fun a => match a with
    | [.sc (.sl .int text)] => (((text).length : Nat) : Int) ≤ 1099511627776
    | _ => False
  post := fun a r => match a, r with
    | [.sc (.sl .int text)], [.sc (.bool r)] => r = textOk text
    | _, _ => False
  kept := false
theorem m_s_TextValid : Meets Tryz.prog 48 S_s_TextValid :=
  meets tok mixed Tryz.func48 (by kernel_rfl) (l := [(66, S_s_l22Symbols)]) ⟨m_s_l22Symbols, trivial⟩ (ann := []) v_s_TextValid (by kernel_rfl)
def S_i_needed : FSpec where
  args := [.sc (.sl .int)]
  outs := [.sc .int, .sc .bool]
  pre := fun a => match a with
    | [.sc (.sl .int bytes)] => (((bytes).length : Nat) : Int) ≤ 1099511627776 ∧ allIn 0 255 bytes = true
    | _ => False
  post := fun a r => match a, r with
    | [.sc (.sl .int bytes)], [.sc (.int _ n), .sc (.bool ok)] => ok = decide (0 ≤ needD bytes) ∧ (ok = true → n = needD bytes)
    | _, _ => False
  kept := false
theorem m_i_needed : Meets Tryz.prog 50 S_i_needed :=
  meets tok mixed Tryz.func50 (by kernel_rfl) (l := [(37, S_i_firstBits), (38, S_i_lengthsIn4), (56, S_i_CodesOf), (58, S_i_symbolAt)]) ⟨m_i_firstBits, m_i_lengthsIn4, m_i_CodesOf, m_i_symbolAt, trivial⟩ (ann := [(22, [.slot 9 .int, .slot 64 .int])]) v_i_needed (by kernel_rfl)
def S_s_l21NeedPrefix : FSpec where
  args := [.sc (.sl .int)]
  outs := [.sc .int]
  pre := fun a => match a with
    | [.sc (.sl .int bytes)] => (((bytes).length : Nat) : Int) ≤ 1099511627776 ∧ allIn 0 255 bytes = true ∧ 2 ≤ (((bytes).length : Nat) : Int) ∧ bytes.getD 1 0 ≤ 40
    | _ => False
  post := fun a r => match a, r with
    | [.sc (.sl .int bytes)], [.sc (.int _ n)] => n = (if bytes.getD 1 0 = 0 then -1 else needP bytes)
    | _, _ => False
  kept := false
theorem m_s_l21NeedPrefix : Meets Tryz.prog 75 S_s_l21NeedPrefix :=
  meets tok mixed Tryz.func75 (by kernel_rfl) (l := [(84, S_s_LengthsValid), (85, S_s_CodesOf), (86, S_s_l1Put), (87, S_s_l12Symbol)]) ⟨m_s_LengthsValid, m_s_CodesOf, m_s_l1Put, m_s_l12Symbol, trivial⟩ (ann := [(7, [.slot 3 (.own 3 .int), .slot 4 .int]), (15, [.slot 6 (.own 3 .int), .slot 7 .int]), (20, [.slot 8 .int, .slot 9 .int])]) v_s_l21NeedPrefix (by kernel_rfl)
def S_s_l21Need : FSpec where
  args := [.sc (.sl .int)]
  outs := [.sc .int]
  pre := fun a => match a with
    | [.sc (.sl .int bytes)] => (((bytes).length : Nat) : Int) ≤ 1099511627776 ∧ allIn 0 255 bytes = true
    | _ => False
  post := fun a r => match a, r with
    | [.sc (.sl .int bytes)], [.sc (.int _ n)] => n = (if (((bytes).length : Nat) : Int) = 0 then 1 else needD bytes)
    | _, _ => False
  kept := false
theorem m_s_l21Need : Meets Tryz.prog 67 S_s_l21Need :=
  meets tok mixed Tryz.func67 (by kernel_rfl) (l := [(75, S_s_l21NeedPrefix)]) ⟨m_s_l21NeedPrefix, trivial⟩ (ann := []) v_s_l21Need (by kernel_rfl)
def S_i_BlockState : FSpec where
  args := [.sc (.sl .int)]
  outs := [.sc .int]
  pre := fun a => match a with
    | [.sc (.sl .int bytes)] => (((bytes).length : Nat) : Int) ≤ 1099511627776
    | _ => False
  post := fun a r => match a, r with
    | [.sc (.sl .int bytes)], [.sc (.int _ r)] => r = stateB bytes
    | _, _ => False
  kept := false
theorem m_i_BlockState : Meets Tryz.prog 31 S_i_BlockState :=
  meets tok mixed Tryz.func31 (by kernel_rfl) (l := [(10, S_i_BlockOpen), (21, S_i_bytesOk), (50, S_i_needed)]) ⟨m_i_BlockOpen, m_i_bytesOk, m_i_needed, trivial⟩ (ann := []) v_i_BlockState (by kernel_rfl)
def S_s_BlockState : FSpec where
  args := [.sc (.sl .int)]
  outs := [.sc .int]
  pre := fun a => match a with
    | [.sc (.sl .int bytes)] => (((bytes).length : Nat) : Int) ≤ 1099511627776
    | _ => False
  post := fun a r => match a, r with
    | [.sc (.sl .int bytes)], [.sc (.int _ r)] => r = stateB bytes
    | _, _ => False
  kept := false
theorem m_s_BlockState : Meets Tryz.prog 49 S_s_BlockState :=
  meets tok mixed Tryz.func49 (by kernel_rfl) (l := [(33, S_s_l1Bytes), (55, S_s_BlockOpen), (67, S_s_l21Need)]) ⟨m_s_l1Bytes, m_s_BlockOpen, m_s_l21Need, trivial⟩ (ann := []) v_s_BlockState (by kernel_rfl)
def S_i_StreamValid : FSpec where
  args := [.agg [.sl .int, .sl .int, .bool]]
  outs := [.sc .bool]
  pre := fun a => match a with
    | [.agg [.sl .int w, .sl .int t, .bool bad]] => (((w).length : Nat) : Int) ≤ 1099511627776 ∧ (((t).length : Nat) : Int) ≤ 1099511627776
    | _ => False
  post := fun a r => match a, r with
    | [.agg [.sl .int w, .sl .int t, .bool bad]], [.sc (.bool r)] => r = rdOk w t bad
    | _, _ => False
  kept := false
theorem m_i_StreamValid : Meets Tryz.prog 29 S_i_StreamValid :=
  meets tok mixed Tryz.func29 (by kernel_rfl) (l := [(12, S_i_TextValid), (21, S_i_bytesOk), (31, S_i_BlockState)]) ⟨m_i_TextValid, m_i_bytesOk, m_i_BlockState, trivial⟩ (ann := []) v_i_StreamValid (by kernel_rfl)
def S_s_StreamValid : FSpec where
  args := [.agg [.sl .int, .sl .int, .bool]]
  outs := [.sc .bool]
  pre := fun a => match a with
    | [.agg [.sl .int w, .sl .int t, .bool bad]] => (((w).length : Nat) : Int) ≤ 1099511627776 ∧ (((t).length : Nat) : Int) ≤ 1099511627776
    | _ => False
  post := fun a r => match a, r with
    | [.agg [.sl .int w, .sl .int t, .bool bad]], [.sc (.bool r)] => r = rdOk w t bad
    | _, _ => False
  kept := false
theorem m_s_StreamValid : Meets Tryz.prog 30 S_s_StreamValid :=
  meets tok mixed Tryz.func30 (by kernel_rfl) (l := [(33, S_s_l1Bytes), (48, S_s_TextValid), (49, S_s_BlockState)]) ⟨m_s_l1Bytes, m_s_TextValid, m_s_BlockState, trivial⟩ (ann := []) v_s_StreamValid (by kernel_rfl)
def S_s_l32Read : FSpec where
  args := [.agg [.own 3 .int, .own 3 .int, .bool]]
  outs := [.agg [.own 3 .int, .own 3 .int, .bool]]
  pre := fun a => match a with
    | [.agg [.sl .int w, .sl .int t, .bool bad]] => (((w).length : Nat) : Int) ≤ 100000000000 ∧ allIn 0 255 w = true ∧ textOk t = true ∧ bad = false
    | _ => False
  post := fun a r => match a, r with
    | [.agg [.sl .int w, .sl .int t, .bool bad]], [.agg [.sl .int w2, .sl .int t2, .bool bad2]] => (w2, t2, bad2) = feed t w
    | _, _ => False
  kept := false
theorem m_s_l32Read : Meets Tryz.prog 34 S_s_l32Read :=
  meets tok mixed Tryz.func34 (by kernel_rfl) (l := [(49, S_s_BlockState), (55, S_s_BlockOpen)]) ⟨m_s_BlockState, m_s_BlockOpen, trivial⟩ (ann := [(1, [.box 1 [.own 3 .int, .own 3 .int, .bool]])]) v_s_l32Read (by kernel_rfl)
def S_i_StreamFeed : FSpec where
  args := [.agg [.sl .int, .sl .int, .bool], .sc (.sl .int)]
  outs := [.agg [.own 3 .int, .own 3 .int, .bool], .sc .bool]
  pre := fun a => match a with
    | [.agg [.sl .int w, .sl .int t, .bool bad], .sc (.sl .int bytes)] => (((w).length : Nat) : Int) ≤ 10000000000 ∧ (((t).length : Nat) : Int) ≤ 10000000000 ∧ (((bytes).length : Nat) : Int) ≤ 10000000000
    | _ => False
  post := fun a r => match a, r with
    | [.agg [.sl .int w, .sl .int t, .bool bad], .sc (.sl .int bytes)], [.agg [.sl .int w2, .sl .int t2, .bool bad2], .sc (.bool ok)] => Fed w t bad bytes ok w2 t2 bad2
    | _, _ => False
  kept := false
theorem m_i_StreamFeed : Meets Tryz.prog 16 S_i_StreamFeed :=
  meets tok mixed Tryz.func16 (by kernel_rfl) (l := [(10, S_i_BlockOpen), (21, S_i_bytesOk), (25, S_i_cloned), (29, S_i_StreamValid), (31, S_i_BlockState)]) ⟨m_i_BlockOpen, m_i_bytesOk, m_i_cloned, m_i_StreamValid, m_i_BlockState, trivial⟩ (ann := [(7, [.box 4 [.sl .int, .sl .int, .bool], .box 6 [.own 3 .int, .own 3 .int, .bool]])]) v_i_StreamFeed (by kernel_rfl)
def S_s_StreamFeed : FSpec where
  args := [.agg [.sl .int, .sl .int, .bool], .sc (.sl .int)]
  outs := [.agg [.own 3 .int, .own 3 .int, .bool], .sc .bool]
  pre := fun a => match a with
    | [.agg [.sl .int w, .sl .int t, .bool bad], .sc (.sl .int bytes)] => (((w).length : Nat) : Int) ≤ 10000000000 ∧ (((t).length : Nat) : Int) ≤ 10000000000 ∧ (((bytes).length : Nat) : Int) ≤ 10000000000
    | _ => False
  post := fun a r => match a, r with
    | [.agg [.sl .int w, .sl .int t, .bool bad], .sc (.sl .int bytes)], [.agg [.sl .int w2, .sl .int t2, .bool bad2], .sc (.bool ok)] => Fed w t bad bytes ok w2 t2 bad2
    | _, _ => False
  kept := false
theorem m_s_StreamFeed : Meets Tryz.prog 20 S_s_StreamFeed :=
  meets tok mixed Tryz.func20 (by kernel_rfl) (l := [(30, S_s_StreamValid), (33, S_s_l1Bytes), (34, S_s_l32Read)]) ⟨m_s_StreamValid, m_s_l1Bytes, m_s_l32Read, trivial⟩ (ann := []) v_s_StreamFeed (by kernel_rfl)
def S_i_StreamEnd : FSpec where
  args := [.agg [.sl .int, .sl .int, .bool]]
  outs := [.sc .bool]
  pre := fun a => match a with
    | [.agg [.sl .int w, .sl .int t, .bool bad]] => (((w).length : Nat) : Int) ≤ 1099511627776 ∧ (((t).length : Nat) : Int) ≤ 1099511627776
    | _ => False
  post := fun a r => match a, r with
    | [.agg [.sl .int w, .sl .int t, .bool bad]], [.sc (.bool r)] => r = (rdOk w t bad && !bad && decide ((((w).length : Nat) : Int) = 0))
    | _, _ => False
  kept := false
theorem m_i_StreamEnd : Meets Tryz.prog 14 S_i_StreamEnd :=
  meets tok mixed Tryz.func14 (by kernel_rfl) (l := [(29, S_i_StreamValid)]) ⟨m_i_StreamValid, trivial⟩ (ann := []) v_i_StreamEnd (by kernel_rfl)
def S_s_StreamEnd : FSpec where
  args := [.agg [.sl .int, .sl .int, .bool]]
  outs := [.sc .bool]
  pre := fun a => match a with
    | [.agg [.sl .int w, .sl .int t, .bool bad]] => (((w).length : Nat) : Int) ≤ 1099511627776 ∧ (((t).length : Nat) : Int) ≤ 1099511627776
    | _ => False
  post := fun a r => match a, r with
    | [.agg [.sl .int w, .sl .int t, .bool bad]], [.sc (.bool r)] => r = (rdOk w t bad && !bad && decide ((((w).length : Nat) : Int) = 0))
    | _, _ => False
  kept := false
theorem m_s_StreamEnd : Meets Tryz.prog 15 S_s_StreamEnd :=
  meets tok mixed Tryz.func15 (by kernel_rfl) (l := [(30, S_s_StreamValid)]) ⟨m_s_StreamValid, trivial⟩ (ann := []) v_s_StreamEnd (by kernel_rfl)
def S_i_StreamAll : FSpec where
  args := [.sc (.sl .int)]
  outs := [.sc (.own 3 .int), .sc .bool]
  pre := fun a => match a with
    | [.sc (.sl .int bytes)] => (((bytes).length : Nat) : Int) ≤ 10000000000
    | _ => False
  post := fun a r => match a, r with
    | [.sc (.sl .int bytes)], [.sc (.sl .int r), .sc (.bool ok)] => ok = (allD bytes).isSome ∧ r = (allD bytes).getD [] ∧ (((r).length : Nat) : Int) ≤ 120
    | _, _ => False
  kept := false
theorem m_i_StreamAll : Meets Tryz.prog 7 S_i_StreamAll :=
  meets tok mixed Tryz.func7 (by kernel_rfl) (l := [(14, S_i_StreamEnd), (16, S_i_StreamFeed)]) ⟨m_i_StreamEnd, m_i_StreamFeed, trivial⟩ (ann := []) v_i_StreamAll (by kernel_rfl)
def S_s_StreamAll : FSpec where
  args := [.sc (.sl .int)]
  outs := [.sc (.own 3 .int), .sc .bool]
  pre := fun a => match a with
    | [.sc (.sl .int bytes)] => (((bytes).length : Nat) : Int) ≤ 10000000000
    | _ => False
  post := fun a r => match a, r with
    | [.sc (.sl .int bytes)], [.sc (.sl .int r), .sc (.bool ok)] => ok = (allD bytes).isSome ∧ r = (allD bytes).getD [] ∧ (((r).length : Nat) : Int) ≤ 120
    | _, _ => False
  kept := false
theorem m_s_StreamAll : Meets Tryz.prog 8 S_s_StreamAll :=
  meets tok mixed Tryz.func8 (by kernel_rfl) (l := [(15, S_s_StreamEnd), (20, S_s_StreamFeed)]) ⟨m_s_StreamEnd, m_s_StreamFeed, trivial⟩ (ann := []) v_s_StreamAll (by kernel_rfl)
def S_s_l92Block : FSpec where
  args := [.box [.sl .u8, .int]]
  outs := [.sc (.own 3 .int)]
  pre := fun a => match a with
    | [.agg [.sl .u8 b, .int _ p]] => (((b).length : Nat) : Int) ≤ 1099511627776 ∧ 0 ≤ p ∧ p ≤ 800000000
    | _ => False
  post := fun a r => match a, r with
    | [.agg [.sl .u8 b, .int _ p]], [.agg [.sl .u8 b', .int _ p'], .sc (.sl .int out)] => b = b' ∧ p ≤ p' ∧ p' ≤ p + 10010 ∧ (((out).length : Nat) : Int) ≤ 82
    | _, _ => False
  kept := true
theorem m_s_l92Block : Meets Tryz.prog 32 S_s_l92Block :=
  meets tok mixed Tryz.func32 (by kernel_rfl) (l := [(27, S_s_pick), (51, S_s_l91List), (52, S_s_BlockAs), (53, S_s_BlockPack)]) ⟨m_s_pick, m_s_l91List, m_s_BlockAs, m_s_BlockPack, trivial⟩ (ann := []) v_s_l92Block (by kernel_rfl)
def S_s_l92Blocks : FSpec where
  args := [.box [.sl .u8, .int]]
  outs := [.sc (.own 3 .int)]
  pre := fun a => match a with
    | [.agg [.sl .u8 b, .int _ p]] => (((b).length : Nat) : Int) ≤ 1099511627776 ∧ 0 ≤ p ∧ p ≤ 700000000
    | _ => False
  post := fun a r => match a, r with
    | [.agg [.sl .u8 b, .int _ p]], [.agg [.sl .u8 b', .int _ p'], .sc (.sl .int out)] => b = b' ∧ p ≤ p' ∧ p' ≤ p + 100000 ∧ (((out).length : Nat) : Int) ≤ 800
    | _, _ => False
  kept := true
theorem m_s_l92Blocks : Meets Tryz.prog 19 S_s_l92Blocks :=
  meets tok mixed Tryz.func19 (by kernel_rfl) (l := [(27, S_s_pick), (32, S_s_l92Block)]) ⟨m_s_pick, m_s_l92Block, trivial⟩ (ann := [(6, [.slot 3 (.own 3 .int), .slot 5 .int, .box 0 [.sl .u8, .int]])]) v_s_l92Blocks (by kernel_rfl)
def S_s_l92Stream : FSpec where
  args := [.box [.sl .u8, .int]]
  outs := [.agg [.own 3 .int, .own 3 .int, .bool]]
  pre := fun a => match a with
    | [.agg [.sl .u8 b, .int _ p]] => (((b).length : Nat) : Int) ≤ 1099511627776 ∧ 0 ≤ p ∧ p ≤ 600000000
    | _ => False
  post := fun a r => match a, r with
    | [.agg [.sl .u8 b, .int _ p]], [.agg [.sl .u8 b', .int _ p'], .agg [.sl .int w, .sl .int t, .bool bad]] => b = b' ∧ p ≤ p' ∧ p' ≤ p + 200000 ∧ (((w).length : Nat) : Int) ≤ 6000 ∧ (((t).length : Nat) : Int) ≤ 200
    | _, _ => False
  kept := true
theorem m_s_l92Stream : Meets Tryz.prog 28 S_s_l92Stream :=
  meets tok mixed Tryz.func28 (by kernel_rfl) (l := [(18, S_s_l92Damage), (19, S_s_l92Blocks), (20, S_s_StreamFeed), (27, S_s_pick)]) ⟨m_s_l92Damage, m_s_l92Blocks, m_s_StreamFeed, m_s_pick, trivial⟩ (ann := []) v_s_l92Stream (by kernel_rfl)
def S_s_DrawStreamEnd : FSpec where
  args := [.sc (.sl .u8)]
  outs := [.agg [.own 3 .int, .own 3 .int, .bool]]
  pre := fun a => match a with
    | [.sc (.sl .u8 code)] => (((code).length : Nat) : Int) ≤ 1099511627776
    | _ => False
  post := fun a r => match a, r with
    | [.sc (.sl .u8 code)], [.agg [.sl .int w, .sl .int t, .bool bad]] => (((w).length : Nat) : Int) ≤ 6000 ∧ (((t).length : Nat) : Int) ≤ 200
    | _, _ => False
  kept := false
theorem m_s_DrawStreamEnd : Meets Tryz.prog 13 S_s_DrawStreamEnd :=
  meets tok mixed Tryz.func13 (by kernel_rfl) (l := [(17, S_s_l6Open), (19, S_s_l92Blocks), (20, S_s_StreamFeed), (27, S_s_pick), (28, S_s_l92Stream)]) ⟨m_s_l6Open, m_s_l92Blocks, m_s_StreamFeed, m_s_pick, m_s_l92Stream, trivial⟩ (ann := []) v_s_DrawStreamEnd (by kernel_rfl)
def S_s_DrawStreamAll : FSpec where
  args := [.sc (.sl .u8)]
  outs := [.sc (.sl .int)]
  pre := fun a => match a with
    | [.sc (.sl .u8 code)] => (((code).length : Nat) : Int) ≤ 1099511627776
    | _ => False
  post := fun a r => match a, r with
    | [.sc (.sl .u8 code)], [.sc (.sl .int bytes)] => (((bytes).length : Nat) : Int) ≤ 6000
    | _, _ => False
  kept := true
theorem m_s_DrawStreamAll : Meets Tryz.prog 6 S_s_DrawStreamAll :=
  meets tok mixed Tryz.func6 (by kernel_rfl) (l := [(17, S_s_l6Open), (18, S_s_l92Damage), (19, S_s_l92Blocks)]) ⟨m_s_l6Open, m_s_l92Damage, m_s_l92Blocks, trivial⟩ (ann := []) v_s_DrawStreamAll (by kernel_rfl)
end Go.Proofs.YtgimfahkojmplaaGreat
