/-
  Functions meet their contracts: w_text.
-/
import Derived.Test.YtfnmhnbadepooaaGreatDoorT
import Derived.Test.YtfnmhnbadepooaaGreatDoorVw
import Derived.Test.YtfnmhnbadepooaaGreatDoorSa
import Derived.Test.YtfnmhnbadepooaaGreatDoorSb
import Derived.Test.YtfnmhnbadepooaaGreatDoorSg
import Derived.Test.YtfnmhnbadepooaaGreatDoorSj
import Derived.Test.YtfnmhnbadepooaaGreatDoorSo
import Derived.Test.YtfnmhnbadepooaaGreatDoorSp
import Derived.Test.YtfnmhnbadepooaaGreatDoorSq
import Derived.Test.YtfnmhnbadepooaaGreatDoorSu
import Derived.Test.YtfnmhnbadepooaaGreatDoorSv
import Derived.Test.YtfnmhnbadepooaaGreatDoorExt
import Derived.Test.YtfnmhnbadepooaaGreatDoorLay
set_option linter.unusedVariables false
set_option linter.unusedSimpArgs false
open Go Go.Ax Go.Mx
namespace Go.Proofs.YtfnmhnbadepooaaGreatDoor
def S_strconv_Itoa : FSpec where
  args := [.sc .int]
  outs := [.sc .str]
  pre := fun a => match a with
    | [.sc (.int _ n)] => -1000000000 < n ∧ n < 1000000000
    | _ => False
  post := fun a r => match a, r with
    | [.sc (.int _ n)], [.sc (.str s)] => s = decI n ∧ (((s).length : Nat) : Int) ≤ 10
    | _, _ => False
  kept := false
theorem m_strconv_Itoa : Meets Tryz.prog 24 S_strconv_Itoa :=
  itoa_meets Tryz.laysItoa (by kernel_rfl) ⟨_, rfl⟩ (g := 1) (by kernel_rfl) (F := S_strconv_Itoa) (by kernel_rfl) rfl rfl
    (fun n h => by have h : -1000000000 < n ∧ n < 1000000000 := h; omega)
    (fun n h => by
      have h : -1000000000 < n ∧ n < 1000000000 := h
      have h2 := decI_len h.1 h.2
      rw [decI_lib] at h2
      exact ⟨(decI_lib n).symm, by omega⟩)
def S_strings_Split : FSpec where
  args := [.sc .str, .sc .str]
  outs := [.sc (.own 9 .str)]
  pre := fun a => match a with
    | [.sc (.str s), .sc (.str sep)] => sep = [10] ∧ (((s).length : Nat) : Int) ≤ 100000
    | _ => False
  post := fun a r => match a, r with
    | [.sc (.str s), .sc (.str sep)], [.sc (.sl .str r)] => r = parts s
    | _, _ => False
  kept := false
theorem m_strings_Split : Meets Tryz.prog 22 S_strings_Split :=
  split_meets Tryz.laysSplit (by kernel_rfl) ⟨_, rfl⟩ (by kernel_rfl) (F := S_strings_Split) (by kernel_rfl) rfl rfl
    (fun s sep h => by have h : sep = [10] ∧ ((s.length : Nat) : Int) ≤ 100000 := h; exact ⟨⟨10, h.1⟩, by omega⟩)
    (fun s c h => by
      have h : [c] = [10] ∧ ((s.length : Nat) : Int) ≤ 100000 := h
      obtain rfl : c = 10 := by simpa using h.1
      exact split_parts s)
def S_strings_Cut : FSpec where
  args := [.sc .str, .sc .str]
  outs := [.sc .str, .sc .str, .sc .bool]
  pre := fun a => match a with
    | [.sc (.str s), .sc (.str sep)] => sep = [32] ∧ (((s).length : Nat) : Int) ≤ 100000
    | _ => False
  post := fun a r => match a, r with
    | [.sc (.str s), .sc (.str sep)], [.sc (.str before), .sc (.str after), .sc (.bool found)] => (before, after, found) = cutS s
    | _, _ => False
  kept := false
theorem m_strings_Cut : Meets Tryz.prog 29 S_strings_Cut :=
  cut_meets Tryz.laysCut (by kernel_rfl) ⟨_, rfl⟩ (F := S_strings_Cut) (by kernel_rfl) rfl rfl
    (fun s sep h => by have h : sep = [32] ∧ ((s.length : Nat) : Int) ≤ 100000 := h; exact ⟨⟨32, h.1⟩, by omega⟩)
    (fun s c h => by
      have h : [c] = [32] ∧ ((s.length : Nat) : Int) ≤ 100000 := h
      obtain rfl : c = 32 := by simpa using h.1
      exact cutS_lib s)
def S_s_l6Dec : FSpec where
  args := [.sc .int]
  outs := [.sc .str]
  pre := fun a => match a with
    | [.sc (.int _ n)] => -1000000000 < n ∧ n < 1000000000
    | _ => False
  post := fun a r => match a, r with
    | [.sc (.int _ n)], [.sc (.str s)] => s = decI n ∧ (((s).length : Nat) : Int) ≤ 10
    | _, _ => False
  kept := false
def S_s_l6Dec_at (kk : Nat) : FSpec where
  args := [.sc .int]
  outs := [.sc .str]
  pre := fun a => match a with
    | [.sc (.int _ n)] => (-1000000000 < n ∧ n < 1000000000) ∧ decM n < kk
    | _ => False
  post := fun a r => match a, r with
    | [.sc (.int _ n)], [.sc (.str s)] => s = decI n ∧ (((s).length : Nat) : Int) ≤ 10
    | _, _ => False
  kept := false
theorem m_s_l6Dec_at : ∀ kk : Nat, Meets Tryz.prog 26 (S_s_l6Dec_at kk)
  | 0 => Meets.never rfl ⟨_, _, Tryz.func26, rfl, by kernel_rfl⟩ (fun ds h => by
    simp only [S_s_l6Dec_at] at h
    split at h
    · exact absurd h.2 (Nat.not_lt_zero _)
    · exact h)
  | kk + 1 => meets tok mixed Tryz.func26 (by kernel_rfl) (l := [(26, S_s_l6Dec_at kk)]) ⟨m_s_l6Dec_at kk, trivial⟩ (ann := []) (v_s_l6Dec kk) (by kernel_rfl)
theorem m_s_l6Dec : Meets Tryz.prog 26 S_s_l6Dec :=
  Meets.union rfl m_s_l6Dec_at (fun _ => rfl) (fun _ => rfl) (fun ds h => by
    simp only [S_s_l6Dec] at h
    split at h
    · exact ⟨_, h, Nat.lt_succ_self _⟩
    · exact h.elim) (fun _ _ _ h => h)
def S_i_numbers : FSpec where
  args := [.sc (.sl .int)]
  outs := [.sc .str]
  pre := fun a => match a with
    | [.sc (.sl .int list)] => (((list).length : Nat) : Int) ≤ 100 ∧ allIn (-1000000) 1000000 list = true
    | _ => False
  post := fun a r => match a, r with
    | [.sc (.sl .int list)], [.sc (.str s)] => s = numsS list ∧ (((s).length : Nat) : Int) ≤ 1100
    | _, _ => False
  kept := false
theorem m_i_numbers : Meets Tryz.prog 31 S_i_numbers :=
  meets tok mixed Tryz.func31 (by kernel_rfl) (l := [(24, S_strconv_Itoa)]) ⟨m_strconv_Itoa, trivial⟩ (ann := [(3, [.slot 3 .str, .slot 8 .int])]) v_i_numbers (by kernel_rfl)
def S_i_digits : FSpec where
  args := [.sc (.sl .int)]
  outs := [.sc .str]
  pre := fun a => match a with
    | [.sc (.sl .int list)] => (((list).length : Nat) : Int) ≤ 100 ∧ allIn 0 7 list = true
    | _ => False
  post := fun a r => match a, r with
    | [.sc (.sl .int list)], [.sc (.str s)] => s = digS list ∧ (((s).length : Nat) : Int) ≤ 100
    | _, _ => False
  kept := false
theorem m_i_digits : Meets Tryz.prog 35 S_i_digits :=
  meets tok mixed Tryz.func35 (by kernel_rfl) (l := []) trivial (ann := [(3, [.slot 3 (.own 5 .u8), .slot 9 .int])]) v_i_digits (by kernel_rfl)
def S_i_tokenTexts : FSpec where
  args := [.sc (.sl .r3)]
  outs := [.sc .str]
  pre := fun a => match a with
    | [.sc (.sl .r3 tokens)] => (((tokens).length : Nat) : Int) ≤ 40 ∧ toksB tokens
    | _ => False
  post := fun a r => match a, r with
    | [.sc (.sl .r3 tokens)], [.sc (.str s)] => s = [116, 111, 107, 101, 110, 115] ++ toksS tokens ∧ (((s).length : Nat) : Int) ≤ 1000
    | _, _ => False
  kept := false
theorem m_i_tokenTexts : Meets Tryz.prog 38 S_i_tokenTexts :=
  meets tok mixed Tryz.func38 (by kernel_rfl) (l := [(24, S_strconv_Itoa)]) ⟨m_strconv_Itoa, trivial⟩ (ann := [(3, [.slot 3 .str, .slot 8 .int])]) v_i_tokenTexts (by kernel_rfl)
def S_i_answer : FSpec where
  args := [.sc .str]
  outs := [.sc .str]
  pre := fun a => match a with
    | [.sc (.str line)] => (((line).length : Nat) : Int) ≤ 600
    | _ => False
  post := fun a r => match a, r with
    | [.sc (.str line)], [.sc (.str s)] => s = lineS line ∧ (((s).length : Nat) : Int) ≤ 1200
    | _, _ => False
  kept := false
theorem m_i_answer : Meets Tryz.prog 23 S_i_answer :=
  meets tok mixed Tryz.func23 (by kernel_rfl) (l := [(24, S_strconv_Itoa), (29, S_strings_Cut), (30, S_i_ListValid), (31, S_i_numbers), (32, S_i_BlockPack), (33, S_i_SizesOf), (34, S_i_RunsOf), (35, S_i_digits), (36, S_i_FrontOf), (37, S_i_TurnOf), (38, S_i_tokenTexts), (39, S_i_TokensGreedy), (40, S_i_ParseBest)]) ⟨m_strconv_Itoa, m_strings_Cut, m_i_ListValid, m_i_numbers, m_i_BlockPack, m_i_SizesOf, m_i_RunsOf, m_i_digits, m_i_FrontOf, m_i_TurnOf, m_i_tokenTexts, m_i_TokensGreedy, m_i_ParseBest, trivial⟩ (ann := [(4, [.slot 6 (.own 3 .int), .slot 23 .int]), (18, [.slot 8 .str, .slot 60 .int])]) v_i_answer (by kernel_rfl)
def S_i_Execute : FSpec where
  args := [.sc .str]
  outs := [.sc .str]
  pre := fun a => match a with
    | [.sc (.str text)] => (((text).length : Nat) : Int) ≤ 2000000
    | _ => False
  post := fun a r => match a, r with
    | [.sc (.str text)], [.sc (.str s)] => s = execD text ∧ (((s).length : Nat) : Int) ≤ 1000000
    | _, _ => False
  kept := false
theorem m_i_Execute : Meets Tryz.prog 13 S_i_Execute :=
  meets tok mixed Tryz.func13 (by kernel_rfl) (l := [(22, S_strings_Split), (23, S_i_answer), (24, S_strconv_Itoa)]) ⟨m_strings_Split, m_i_answer, m_strconv_Itoa, trivial⟩ (ann := [(7, [.slot 4 .str, .slot 19 .int])]) v_i_Execute (by kernel_rfl)
def S_s_l51List : FSpec where
  args := [.sc .str]
  outs := [.sc (.own 3 .int), .sc .bool]
  pre := fun a => match a with
    | [.sc (.str s)] => (((s).length : Nat) : Int) ≤ 1000
    | _ => False
  post := fun a r => match a, r with
    | [.sc (.str s)], [.sc (.sl .int r), .sc (.bool ok)] => ok = LV (numsOf s) ∧ (ok = true → r = numsOf s) ∧ (((r).length : Nat) : Int) ≤ 1000
    | _, _ => False
  kept := false
theorem m_s_l51List : Meets Tryz.prog 42 S_s_l51List :=
  meets tok mixed Tryz.func42 (by kernel_rfl) (l := [(56, S_s_ListValid)]) ⟨m_s_ListValid, trivial⟩ (ann := [(3, [.slot 4 (.own 3 .int), .slot 5 .int])]) v_s_l51List (by kernel_rfl)
def S_s_l51Digits : FSpec where
  args := [.sc (.sl .int)]
  outs := [.sc .str]
  pre := fun a => match a with
    | [.sc (.sl .int list)] => (((list).length : Nat) : Int) ≤ 100 ∧ allIn 0 7 list = true
    | _ => False
  post := fun a r => match a, r with
    | [.sc (.sl .int list)], [.sc (.str s)] => s = digS list ∧ (((s).length : Nat) : Int) ≤ 100
    | _, _ => False
  kept := false
theorem m_s_l51Digits : Meets Tryz.prog 62 S_s_l51Digits :=
  meets tok mixed Tryz.func62 (by kernel_rfl) (l := [(26, S_s_l6Dec)]) ⟨m_s_l6Dec, trivial⟩ (ann := [(3, [.slot 3 .str, .slot 4 .int])]) v_s_l51Digits (by kernel_rfl)
def S_s_l51Numbers : FSpec where
  args := [.sc (.sl .int)]
  outs := [.sc .str]
  pre := fun a => match a with
    | [.sc (.sl .int list)] => (((list).length : Nat) : Int) ≤ 100 ∧ allIn (-1000000) 1000000 list = true
    | _ => False
  post := fun a r => match a, r with
    | [.sc (.sl .int list)], [.sc (.str s)] => s = numsS list ∧ (((s).length : Nat) : Int) ≤ 1100
    | _, _ => False
  kept := false
theorem m_s_l51Numbers : Meets Tryz.prog 57 S_s_l51Numbers :=
  meets tok mixed Tryz.func57 (by kernel_rfl) (l := [(26, S_s_l6Dec)]) ⟨m_s_l6Dec, trivial⟩ (ann := [(3, [.slot 3 .str, .slot 4 .int])]) v_s_l51Numbers (by kernel_rfl)
def S_s_l51Tokens : FSpec where
  args := [.sc (.sl .r3)]
  outs := [.sc .str]
  pre := fun a => match a with
    | [.sc (.sl .r3 tokens)] => (((tokens).length : Nat) : Int) ≤ 40 ∧ toksB tokens
    | _ => False
  post := fun a r => match a, r with
    | [.sc (.sl .r3 tokens)], [.sc (.str s)] => s = toksS tokens ∧ (((s).length : Nat) : Int) ≤ 994
    | _, _ => False
  kept := false
theorem m_s_l51Tokens : Meets Tryz.prog 65 S_s_l51Tokens :=
  meets tok mixed Tryz.func65 (by kernel_rfl) (l := [(26, S_s_l6Dec)]) ⟨m_s_l6Dec, trivial⟩ (ann := [(3, [.slot 3 .str, .slot 4 .int])]) v_s_l51Tokens (by kernel_rfl)
def S_s_l51Runs : FSpec where
  args := [.sc (.sl .r2)]
  outs := [.sc .str]
  pre := fun a => match a with
    | [.sc (.sl .r2 runs)] => (((runs).length : Nat) : Int) ≤ 40 ∧ runsB runs
    | _ => False
  post := fun a r => match a, r with
    | [.sc (.sl .r2 runs)], [.sc (.str s)] => s = runsS runs ∧ (((s).length : Nat) : Int) ≤ 900
    | _, _ => False
  kept := false
theorem m_s_l51Runs : Meets Tryz.prog 60 S_s_l51Runs :=
  meets tok mixed Tryz.func60 (by kernel_rfl) (l := [(26, S_s_l6Dec)]) ⟨m_s_l6Dec, trivial⟩ (ann := [(3, [.slot 3 .str, .slot 4 .int])]) v_s_l51Runs (by kernel_rfl)
def S_s_l51Word : FSpec where
  args := [.sc .str, .sc (.sl .int)]
  outs := [.sc .str]
  pre := fun a => match a with
    | [.sc (.str word), .sc (.sl .int list)] => (((word).length : Nat) : Int) ≤ 600 ∧ LV list = true
    | _ => False
  post := fun a r => match a, r with
    | [.sc (.str word), .sc (.sl .int list)], [.sc (.str s)] => s = wordS word list ++ [10] ∧ (((s).length : Nat) : Int) ≤ 1201
    | _, _ => False
  kept := false
theorem m_s_l51Word : Meets Tryz.prog 43 S_s_l51Word :=
  meets tok mixed Tryz.func43 (by kernel_rfl) (l := [(26, S_s_l6Dec), (57, S_s_l51Numbers), (58, S_s_BlockPack), (59, S_s_SizesOf), (60, S_s_l51Runs), (61, S_s_RunsOf), (62, S_s_l51Digits), (63, S_s_FrontOf), (64, S_s_TurnOf), (65, S_s_l51Tokens), (66, S_s_TokensGreedy), (67, S_s_ParseBest)]) ⟨m_s_l6Dec, m_s_l51Numbers, m_s_BlockPack, m_s_SizesOf, m_s_l51Runs, m_s_RunsOf, m_s_l51Digits, m_s_FrontOf, m_s_TurnOf, m_s_l51Tokens, m_s_TokensGreedy, m_s_ParseBest, trivial⟩ (ann := []) v_s_l51Word (by kernel_rfl)
def S_s_l51Line : FSpec where
  args := [.sc .str]
  outs := [.sc .str]
  pre := fun a => match a with
    | [.sc (.str line)] => (((line).length : Nat) : Int) ≤ 600
    | _ => False
  post := fun a r => match a, r with
    | [.sc (.str line)], [.sc (.str s)] => s = lineS line ++ [10] ∧ (((s).length : Nat) : Int) ≤ 1201
    | _, _ => False
  kept := false
theorem m_s_l51Line : Meets Tryz.prog 25 S_s_l51Line :=
  meets tok mixed Tryz.func25 (by kernel_rfl) (l := [(42, S_s_l51List), (43, S_s_l51Word)]) ⟨m_s_l51List, m_s_l51Word, trivial⟩ (ann := [(2, [.slot 3 .int])]) v_s_l51Line (by kernel_rfl)
def S_s_Execute : FSpec where
  args := [.sc .str]
  outs := [.sc .str]
  pre := fun a => match a with
    | [.sc (.str text)] => (((text).length : Nat) : Int) ≤ 2000000
    | _ => False
  post := fun a r => match a, r with
    | [.sc (.str text)], [.sc (.str s)] => s = execD text ∧ (((s).length : Nat) : Int) ≤ 1000000
    | _, _ => False
  kept := false
theorem m_s_Execute : Meets Tryz.prog 14 S_s_Execute :=
  meets tok mixed Tryz.func14 (by kernel_rfl) (l := [(25, S_s_l51Line), (26, S_s_l6Dec)]) ⟨m_s_l51Line, m_s_l6Dec, trivial⟩ (ann := [(7, [.slot 3 .str, .slot 4 .int, .slot 5 .int, .slot 6 .int])]) v_s_Execute (by kernel_rfl)
def S_s_of : FSpec where
  args := [.box [.sl .u8, .int], .sc (.sl .str)]
  outs := [.sc .str]
  pre := fun a => match a with
    | [.agg [.sl .u8 b, .int _ p], .sc (.sl .str list)] => (((b).length : Nat) : Int) ≤ 1099511627776 ∧ 0 ≤ p ∧ p ≤ 900000000 ∧ 1 ≤ (((list).length : Nat) : Int) ∧ (((list).length : Nat) : Int) ≤ 100 ∧ shortB list
    | _ => False
  post := fun a r => match a, r with
    | [.agg [.sl .u8 b, .int _ p], .sc (.sl .str list)], [.agg [.sl .u8 b', .int _ p'], .sc (.str s)] => b = b' ∧ p' = p + 1 ∧ (((s).length : Nat) : Int) ≤ 10
    | _, _ => False
  kept := true
theorem m_s_of : Meets Tryz.prog 19 S_s_of :=
  meets tok mixed Tryz.func19 (by kernel_rfl) (l := [(18, S_s_pick)]) ⟨m_s_pick, trivial⟩ (ann := []) v_s_of (by kernel_rfl)
def S_s_l6Many : FSpec where
  args := [.sc .str, .sc .int]
  outs := [.sc .str]
  pre := fun a => match a with
    | [.sc (.str s), .sc (.int _ n)] => (((s).length : Nat) : Int) ≤ 10 ∧ 0 ≤ n ∧ n ≤ 100
    | _ => False
  post := fun a r => match a, r with
    | [.sc (.str s), .sc (.int _ n)], [.sc (.str r)] => (((r).length : Nat) : Int) ≤ 1000
    | _, _ => False
  kept := false
theorem m_s_l6Many : Meets Tryz.prog 21 S_s_l6Many :=
  meets tok mixed Tryz.func21 (by kernel_rfl) (l := []) trivial (ann := [(2, [.slot 0 .str, .slot 1 .int, .slot 5 .str])]) v_s_l6Many (by kernel_rfl)
def S_s_l92Digits : FSpec where
  args := [.box [.sl .u8, .int]]
  outs := [.sc .str]
  pre := fun a => match a with
    | [.agg [.sl .u8 b, .int _ p]] => (((b).length : Nat) : Int) ≤ 1099511627776 ∧ 0 ≤ p ∧ p ≤ 800000000
    | _ => False
  post := fun a r => match a, r with
    | [.agg [.sl .u8 b, .int _ p]], [.agg [.sl .u8 b', .int _ p'], .sc (.str out)] => b = b' ∧ p ≤ p' ∧ p' ≤ p + 10000 ∧ (((out).length : Nat) : Int) ≤ 240
    | _, _ => False
  kept := true
theorem m_s_l92Digits : Meets Tryz.prog 20 S_s_l92Digits :=
  meets tok mixed Tryz.func20 (by kernel_rfl) (l := [(26, S_s_l6Dec), (27, S_s_l91List)]) ⟨m_s_l6Dec, m_s_l91List, trivial⟩ (ann := [(4, [.slot 3 .str, .slot 5 .int])]) v_s_l92Digits (by kernel_rfl)
def S_s_DrawExecute : FSpec where
  args := [.sc (.sl .u8)]
  outs := [.sc .str]
  pre := fun a => match a with
    | [.sc (.sl .u8 code)] => (((code).length : Nat) : Int) ≤ 1099511627776
    | _ => False
  post := fun a r => match a, r with
    | [.sc (.sl .u8 code)], [.sc (.str s)] => (((s).length : Nat) : Int) ≤ 4000
    | _, _ => False
  kept := false
theorem m_s_DrawExecute : Meets Tryz.prog 12 S_s_DrawExecute :=
  meets tok mixed Tryz.func12 (by kernel_rfl) (l := [(17, S_s_l6Open), (18, S_s_pick), (19, S_s_of), (20, S_s_l92Digits), (21, S_s_l6Many)]) ⟨m_s_l6Open, m_s_pick, m_s_of, m_s_l92Digits, m_s_l6Many, trivial⟩ (ann := [(5, [.slot 4 .str, .slot 6 .int, .box 3 [.sl .u8, .int]])]) v_s_DrawExecute (by kernel_rfl)
def S_l_completeLines : FSpec where
  args := [.sc .str]
  outs := [.sc .str]
  pre := fun a => match a with
    | [.sc (.str text)] => (((text).length : Nat) : Int) ≤ 2000000
    | _ => False
  post := fun a r => match a, r with
    | [.sc (.str text)], [.sc (.str r)] => r = complS text ∧ (((r).length : Nat) : Int) ≤ (((text).length : Nat) : Int)
    | _, _ => False
  kept := false
theorem m_l_completeLines : Meets Tryz.prog 15 S_l_completeLines :=
  meets tok mixed Tryz.func15 (by kernel_rfl) (l := []) trivial (ann := [(2, [.slot 3 .int])]) v_l_completeLines (by kernel_rfl)
def S_l_lastLine : FSpec where
  args := [.sc .str]
  outs := [.sc .str]
  pre := fun a => match a with
    | [.sc (.str out)] => (((out).length : Nat) : Int) ≤ 2000000
    | _ => False
  post := fun a r => match a, r with
    | [.sc (.str out)], [.sc (.str r)] => r = lastS out
    | _, _ => False
  kept := false
theorem m_l_lastLine : Meets Tryz.prog 16 S_l_lastLine :=
  meets tok mixed Tryz.func16 (by kernel_rfl) (l := []) trivial (ann := [(2, [.slot 3 .int])]) v_l_lastLine (by kernel_rfl)
end Go.Proofs.YtfnmhnbadepooaaGreatDoor
