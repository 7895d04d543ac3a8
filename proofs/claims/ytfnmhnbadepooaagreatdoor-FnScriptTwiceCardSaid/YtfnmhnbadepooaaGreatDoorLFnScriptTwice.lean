/-
  FnScriptTwice: for every input the law returns true, and each argument reads afterwards as it read before. No conditions.
-/
import Derived.Test.YtfnmhnbadepooaaGreatDoorCards
import Derived.Test.YtfnmhnbadepooaaGreatDoorTie
import Derived.Test.YtfnmhnbadepooaaGreatDoorExt
import Derived.SevenTiedAt
import Derived.Test.YtfnmhnbadepooaaGreatDoorRows
import Derived.Test.YtfnmhnbadepooaaGreatDoorT
import Derived.Test.YtfnmhnbadepooaaGreatDoorSa
import Derived.Test.YtfnmhnbadepooaaGreatDoorSb
import Derived.Test.YtfnmhnbadepooaaGreatDoorSg
import Derived.Test.YtfnmhnbadepooaaGreatDoorSj
import Derived.Test.YtfnmhnbadepooaaGreatDoorSk
import Derived.Test.YtfnmhnbadepooaaGreatDoorSl
import Derived.Test.YtfnmhnbadepooaaGreatDoorSm
import Derived.Test.YtfnmhnbadepooaaGreatDoorSn
import Derived.Test.YtfnmhnbadepooaaGreatDoorSo
import Derived.Test.YtfnmhnbadepooaaGreatDoorSp
import Derived.Test.YtfnmhnbadepooaaGreatDoorSq
import Derived.Test.YtfnmhnbadepooaaGreatDoorSu
import Derived.Test.YtfnmhnbadepooaaGreatDoorSv
import Derived.Test.YtfnmhnbadepooaaGreatDoorSw
set_option linter.unusedVariables false
set_option linter.unusedSimpArgs false
open Go Go.Ax Go.Mx Go.ChangeShapes Go.WideShapes Go.RowKit Go.ChangeAt
namespace Go.Proofs.YtfnmhnbadepooaaGreatDoor
def V_l_FnScriptTwice : Prop :=
  ∀ (l0 : List UInt8), (l0.length : Int) ≤ (9223372036854775807 : Int) → (1048576 < (l0.length : Int) → true = true) ∧ (¬1048576 < (l0.length : Int) → (l0.length : Int) ≤ 1099511627776 ∧ ∀ (l1 : List UInt8), (l1.length : Int) ≤ 4000 →
 (l1.length : Int) ≤ 2000000 ∧ ∀ (l2 : List UInt8), l2 = execD l1 ∧ (l2.length : Int) ≤ 1000000 → (l1.length : Int) ≤ 2000000 ∧ ∀ (l3 : List UInt8), l3 = execD l1 ∧ (l3.length : Int) ≤ 1000000 → (l2 ≠ l3 → (l2 = l3 → true = true) ∧ (¬l2 = l3
 → false = true)) ∧ (¬l2 ≠ l3 → ((-9223372036854775808 : Int) ≤ 2 * (l1.length : Int) ∧ 2 * (l1.length : Int) ≤ (9223372036854775807 : Int)) ∧ ((600 : Int) < 2 * (l1.length : Int) → (l2 = l3 → true = true) ∧ (¬l2 = l3 → false = true)) ∧
 (¬(600 : Int) < 2 * (l1.length : Int) → (l1.length : Int) ≤ 2000000 ∧ ∀ (l4 : List UInt8), l4 = complS l1 ∧ (l4.length : Int) ≤ (l1.length : Int) → (l4.length : Int) ≤ 2000000 ∧ ∀ (l5 : List UInt8), l5 = execD l4 ∧ (l5.length : Int) ≤
 1000000 → (l5.length : Int) ≤ 2000000 ∧ ∀ (l6 : List UInt8), l6 = lastS l5 → (-9223372036854775808 ≤ (l5.length : Int) - (l6.length : Int) ∧ (l5.length : Int) - (l6.length : Int) ≤ (9223372036854775807 : Int)) ∧ 0 ≤ (l5.length : Int) -
 (l6.length : Int) ∧ (l5.length : Int) - (l6.length : Int) ≤ (l5.length : Int) ∧ (↑(l4.length + l4.length) : Int) ≤ 1099511627776 ∧ (↑(List.length (l4 ++ l4)) : Int) ≤ 2000000 ∧ ∀ (l7 : List UInt8), l7 = execD (l4 ++ l4) ∧ (l7.length : Int) ≤
 1000000 → ((-9223372036854775808 : Int) ≤ 2 * (↑(List.length (List.take (Int.toNat ((l5.length : Int) - (l6.length : Int))) l5)) : Int) ∧ 2 * (↑(List.length (List.take (Int.toNat ((l5.length : Int) - (l6.length : Int))) l5)) : Int) ≤
 (9223372036854775807 : Int)) ∧ (2 * (↑(List.length (List.take (Int.toNat ((l5.length : Int) - (l6.length : Int))) l5)) : Int) ≤ (l7.length : Int) → ((-9223372036854775808 : Int) ≤ 2 * (↑(List.length (List.take (Int.toNat ((l5.length : Int) -
 (l6.length : Int))) l5)) : Int) ∧ 2 * (↑(List.length (List.take (Int.toNat ((l5.length : Int) - (l6.length : Int))) l5)) : Int) ≤ (9223372036854775807 : Int)) ∧ (0 : Int) ≤ 2 * (↑(List.length (List.take (Int.toNat ((l5.length : Int) -
 (l6.length : Int))) l5)) : Int) ∧ 2 * (↑(List.length (List.take (Int.toNat ((l5.length : Int) - (l6.length : Int))) l5)) : Int) ≤ (l7.length : Int) ∧ (↑(List.length (List.take (Int.toNat ((l5.length : Int) - (l6.length : Int))) l5) +
 List.length (List.take (Int.toNat ((l5.length : Int) - (l6.length : Int))) l5)) : Int) ≤ 1099511627776 ∧ (List.take (Int.toNat (2 * (↑(List.length (List.take (Int.toNat ((l5.length : Int) - (l6.length : Int))) l5)) : Int))) l7 = List.take
 (Int.toNat ((l5.length : Int) - (l6.length : Int))) l5 ++ List.take (Int.toNat ((l5.length : Int) - (l6.length : Int))) l5 → (l7.length : Int) ≤ 2000000 ∧ ∀ (l8 : List UInt8), l8 = lastS l7 → (-9223372036854775808 ≤ (l7.length : Int) -
 (l8.length : Int) ∧ (l7.length : Int) - (l8.length : Int) ≤ (9223372036854775807 : Int)) ∧ ((-9223372036854775808 : Int) ≤ 2 * (↑(List.length (List.take (Int.toNat ((l5.length : Int) - (l6.length : Int))) l5)) : Int) ∧ 2 * (↑(List.length
 (List.take (Int.toNat ((l5.length : Int) - (l6.length : Int))) l5)) : Int) ≤ (9223372036854775807 : Int)) ∧ ((l7.length : Int) - (l8.length : Int) = 2 * (↑(List.length (List.take (Int.toNat ((l5.length : Int) - (l6.length : Int))) l5)) :
 Int) → true = true) ∧ (¬(l7.length : Int) - (l8.length : Int) = 2 * (↑(List.length (List.take (Int.toNat ((l5.length : Int) - (l6.length : Int))) l5)) : Int) → false = true)) ∧ (¬List.take (Int.toNat (2 * (↑(List.length (List.take (Int.toNat
 ((l5.length : Int) - (l6.length : Int))) l5)) : Int))) l7 = List.take (Int.toNat ((l5.length : Int) - (l6.length : Int))) l5 ++ List.take (Int.toNat ((l5.length : Int) - (l6.length : Int))) l5 → false = true)) ∧ (¬2 * (↑(List.length
 (List.take (Int.toNat ((l5.length : Int) - (l6.length : Int))) l5)) : Int) ≤ (l7.length : Int) → false = true))))
theorem v_l_FnScriptTwice : V_l_FnScriptTwice := by
  unfold V_l_FnScriptTwice
  intro code hz
  refine ⟨fun _ => rfl, fun hc => ⟨by omega, ?_⟩⟩
  intro s hs
  refine ⟨by omega, ?_⟩
  rintro a ⟨rfl, ha⟩
  refine ⟨by omega, ?_⟩
  rintro b ⟨rfl, hb⟩
  refine ⟨fun q => absurd rfl q, fun _ => ?_⟩

  refine ⟨by omega, fun _ => ⟨fun _ => rfl, fun q => absurd rfl q⟩, fun h => ⟨by omega, ?_⟩⟩
  rintro c ⟨hcc, hc2⟩
  refine ⟨by omega, ?_⟩
  rintro d ⟨hd, hd1⟩
  have hY : execD c = outS (linesD s) ++ endS (linesD s).length := by rw [execD_of (by omega), hcc, linesD_compl]
  have hZ : execD (c ++ c) = outS (linesD s) ++ outS (linesD s) ++ endS (linesD s ++ linesD s).length := by rw [execD_of (by rw [List.length_append]; omega), hcc, linesD_twice, outS_app]
  rw [hY] at hd
  subst hd
  have hl1 := lastS_out (linesD s) (linesD s).length
  have hl2 := lastS_out (linesD s ++ linesD s) (linesD s ++ linesD s).length
  rw [outS_app] at hl2
  generalize outS (linesD s) = O at *
  generalize endS (linesD s).length = E at *
  generalize endS (linesD s ++ linesD s).length = E2 at *
  have e1 : (O ++ E).length = O.length + E.length := List.length_append
  have e2 : (O ++ O ++ E2).length = O.length + O.length + E2.length := by simp only [List.length_append]
  refine ⟨by omega, ?_⟩
  rintro f hf
  rw [hl1] at hf
  subst hf
  have hcut : (O ++ f).take (((O ++ f).length : Int) - f.length).toNat = O := by
    rw [show (((O ++ f).length : Int) - f.length).toNat = O.length by omega, List.take_left]
  rw [hcut]
  have e3 : (c ++ c).length = c.length + c.length := List.length_append
  refine ⟨by omega, by omega, by omega, by omega, by omega, ?_⟩
  rintro z ⟨hz1, hz2⟩
  rw [hZ] at hz1
  subst hz1
  have hcut2 : (O ++ O ++ E2).take (2 * (O.length : Int)).toNat = O ++ O := by
    rw [show (2 * (O.length : Int)).toNat = (O ++ O).length by rw [List.length_append]; omega, List.take_left]
  rw [hcut2]
  refine ⟨by omega, fun _ => ⟨by omega, by omega, by omega, by omega, fun _ => ⟨by omega, ?_⟩, fun q => absurd rfl q⟩, fun q => absurd (by omega) q⟩
  rintro g hg
  rw [hl2] at hg
  subst hg
  exact ⟨by omega, by omega, fun _ => rfl, fun q => absurd (by omega) q⟩
def S_l_FnScriptTwice : FSpec where
  args := [.sc (.sl .u8)]
  outs := [.sc .bool]
  pre := fun a => match a with
    | [.sc (.sl .u8 code)] => (((code).length : Nat) : Int) ≤ 9223372036854775807
    | _ => False
  post := fun a r => match a, r with
    | [.sc (.sl .u8 code)], [.sc (.bool r)] => r = true
    | _, _ => False
  kept := false
theorem m_l_FnScriptTwice : Meets Tryz.prog 5 S_l_FnScriptTwice :=
  meets tok mixed Tryz.func5 (by kernel_rfl) (l := [(12, S_s_DrawExecute), (13, S_i_Execute), (14, S_s_Execute), (15, S_l_completeLines), (16, S_l_lastLine)]) ⟨m_s_DrawExecute, m_i_Execute, m_s_Execute, m_l_completeLines, m_l_lastLine, trivial⟩ (ann := []) v_l_FnScriptTwice (by kernel_rfl)
theorem a_l_FnScriptTwice : LawOf Tryz.prog Tryz.f5.params.toList S_l_FnScriptTwice where
  args := by kernel_rfl
  outs := rfl
  pre := AKs.all_iff.1 (show AKs.all S_l_FnScriptTwice.args (fun ds => bnds ds → S_l_FnScriptTwice.pre ds) from fun x0 h => h.1)
  post := AKs.all_iff.1 (show AKs.all S_l_FnScriptTwice.args (fun ds => ∀ b, S_l_FnScriptTwice.post ds [.sc (.bool b)] → b = true) from fun x0 _ h => h)
theorem own_FnScriptTwice : ownKnob Tryz.prog.godebug = none := by kernel_rfl
theorem tab_FnScriptTwice : Rows.fnScriptTwiceRow.laid.filter (fun x => x.1 == "internal/strconv.uint64pow10") = [("internal/strconv.uint64pow10", Lib.tabData .u64 Lib.pow10Tab)] := by kernel_rfl
theorem gl_FnScriptTwice (W : World) (h : laidMetH Tryz.prog Rows.fnScriptTwiceRow.laid W) : Gl Tryz.prog W (Old W) :=
  gl_of_laid (P := Tryz.prog) (g := 1) (t := 98) (e := 80) (n := 20) (fun x => x.1 == "internal/strconv.uint64pow10") tab_FnScriptTwice rfl (by kernel_rfl) (by kernel_rfl) Tryz.underlying98 Tryz.underlying80 (by kernel_rfl) (by kernel_rfl) W h
set_option maxRecDepth 100000 in
theorem lifted_l_FnScriptTwice (os : Os) (started : os.Started) (H : Type) (enc : TypeId × Value → H) :
    ReturnsInHanded {} Tryz.checked os 5 .any (fun w args => (Rows.fnScriptTwiceSpec.pre enc Tryz.prog Tryz.f5 Rows.fnScriptTwiceRow.domain false w args ∧ laidMetH Tryz.prog Rows.fnScriptTwiceRow.laid w) ∧ sizedMet enc Tryz.prog Tryz.f5 (OpenSpec.ofChange Rows.fnScriptTwiceSpec) false w args) (Rows.fnScriptTwiceSpec.post enc Tryz.prog Tryz.f5 false true false false) :=
  law_lifted_laid (C := Tryz.checked) (F := S_l_FnScriptTwice) own_FnScriptTwice started (by kernel_rfl) Tryz.func5
    (ChangeSpec.witness_shaped (enc := enc) (C := Tryz.checked) (os := os) (X := fun w _ => laidMetH Tryz.prog Rows.fnScriptTwiceRow.laid w) false (World.laidAll Tryz.prog os Rows.fnScriptTwiceRow.laid) #[.slice none 0 0] 8 (World.laidAll_os _ _ _)
      (World.shaped_of_ZipB (by kernel_rfl) (by kernel_rfl)) (by kernel_rfl) (by kernel_rfl) (by kernel_rfl)
      (by rw [MakeChecks.laidMetH_plain _ _ _ (by kernel_rfl)]; exact laidMet_laidAll _ (by kernel_rfl) (by kernel_rfl)))
    m_l_FnScriptTwice a_l_FnScriptTwice (by kernel_rfl) (of_decide_eq_true (by kernel_rfl)) rfl (fun ds h => by match ds, h with | [d0], _ => rfl) (by kernel_rfl) Tryz.underlying4 gl_FnScriptTwice
theorem facts_FnScriptTwice : ∀ P : Program, P = Tryz.prog → P.initOrder.toList = ioNums.map Char.ofNat → joinedFacts P 5 Tryz.f5 Rows.fnScriptTwiceSpec Rows.fnScriptTwiceRow = true := by
  intro P hP h
  have h1 := io1 P hP h
  have h2 := io2 P hP h
  have h3 := io3 P hP h
  unfold joinedFacts
  rw [h1, h2, h3]
  subst hP
  show (_ : Bool) = true
  kernel_rfl
theorem proved_FnScriptTwice : Rows.FnScriptTwiceSaid :=
  OpenClaim.holds_of_wide 5 Tryz.f5 rfl rfl rfl rfl rfl rfl rfl ⟨rfl, rfl, rfl, rfl, rfl⟩ rfl rfl rfl rfl rfl (by kernel_rfl) Tryz.func5 (facts_FnScriptTwice _ rfl ioL)
    (of_decide_eq_true (by kernel_rfl)) (by unfold Func.isWrapper; first | (rw [if_pos (by decide +kernel)]; kernel_rfl) | (rw [if_neg (by decide +kernel)]; exact ⟨rfl, rfl⟩))
    (fun os started H enc _ => lifted_l_FnScriptTwice os started H enc)
theorem plain_FnScriptTwice (g : FuncId) (fn : Func) (hf : Tryz.pinned.checked.prog.funcNamed Rows.fnScriptTwiceRow.func = some g) (hfn : Tryz.pinned.checked.prog.funcs[g]? = some fn) :
    false = Tryz.pinned.checked.prog.looks [] ∧ ∀ (j : Nat) t, fn.params[j]? = some t → Tryz.pinned.checked.prog.wantsStandIn t = false := by
  obtain rfl : g = 5 := Option.some.inj ((show Tryz.prog.funcNamed Rows.fnScriptTwiceRow.func = some 5 by kernel_rfl).symm.trans hf) |>.symm
  obtain rfl : fn = Tryz.f5 := (Option.some.inj (Tryz.func5.symm.trans hfn)).symm
  refine ⟨by kernel_rfl, fun j t ht => ?_⟩
  rw [Tryz.params5] at ht
  obtain rfl : t = 22 := by simpa using Array.mem_of_getElem? ht
  exact (show Tryz.prog.wantsStandIn 22 = false by kernel_rfl)
theorem card_FnScriptTwice : Rows.FnScriptTwiceCardSaid :=
  Claim7.holds_tied_plain_at .later [] _ _ _ _ proved_FnScriptTwice (fun _ h => by cases h) (by kernel_rfl) (fun _ h => by cases h) fnScriptTwice_row_tie rfl ⟨rfl, rfl⟩ (by kernel_rfl) rfl plain_FnScriptTwice (by kernel_rfl)
end Go.Proofs.YtfnmhnbadepooaaGreatDoor
