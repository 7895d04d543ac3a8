/-
  FnScriptRuns: for every input the law returns true, and each argument reads afterwards as it read before. No conditions.
-/
import Derived.Test.YtfnmhnbadepooaaGreatDoorCards
import Derived.Test.YtfnmhnbadepooaaGreatDoorTie
import Derived.Test.YtfnmhnbadepooaaGreatDoorExt
import Derived.SevenTiedAt
import Derived.Test.YtfnmhnbadepooaaGreatDoorRows
import Derived.Test.YtfnmhnbadepooaaGreatDoorT
import Derived.Test.YtfnmhnbadepooaaGreatDoorSa
import Derived.Test.YtfnmhnbadepooaaGreatDoorSb
import Derived.Test.YtfnmhnbadepooaaGreatDoorSg
import Derived.Test.YtfnmhnbadepooaaGreatDoorSj
import Derived.Test.YtfnmhnbadepooaaGreatDoorSk
import Derived.Test.YtfnmhnbadepooaaGreatDoorSl
import Derived.Test.YtfnmhnbadepooaaGreatDoorSm
import Derived.Test.YtfnmhnbadepooaaGreatDoorSn
import Derived.Test.YtfnmhnbadepooaaGreatDoorSo
import Derived.Test.YtfnmhnbadepooaaGreatDoorSp
import Derived.Test.YtfnmhnbadepooaaGreatDoorSq
import Derived.Test.YtfnmhnbadepooaaGreatDoorSu
import Derived.Test.YtfnmhnbadepooaaGreatDoorSv
import Derived.Test.YtfnmhnbadepooaaGreatDoorSw
set_option linter.unusedVariables false
set_option linter.unusedSimpArgs false
open Go Go.Ax Go.Mx Go.ChangeShapes Go.WideShapes Go.RowKit Go.ChangeAt
namespace Go.Proofs.YtfnmhnbadepooaaGreatDoor
def V_l_FnScriptRuns : Prop :=
  ∀ (l0 : List UInt8), (l0.length : Int) ≤ (9223372036854775807 : Int) → (1048576 < (l0.length : Int) → true = true) ∧ (¬1048576 < (l0.length : Int) → (l0.length : Int) ≤ 1099511627776 ∧ ∀ (l1 : List UInt8), (l1.length : Int) ≤ 4000 →
 (l1.length : Int) ≤ 2000000 ∧ ∀ (l2 : List UInt8), l2 = execD l1 ∧ (l2.length : Int) ≤ 1000000 → (l1.length : Int) ≤ 2000000 ∧ ∀ (l3 : List UInt8), l3 = execD l1 ∧ (l3.length : Int) ≤ 1000000 → (l2 ≠ l3 → (l2 = l3 → true = true) ∧ (¬l2 = l3
 → false = true)) ∧ (¬l2 ≠ l3 → (↑(List.length ([114, 117, 110, 115, 32, 49, 49, 50, 50, 10, 102, 114, 111, 110, 116, 32, 49, 49, 50, 50, 10, 114, 117, 110, 115, 32, 10] : List UInt8)) : Int) ≤ 2000000 ∧ ∀ (l4 : List UInt8), l4 = execD ([114,
 117, 110, 115, 32, 49, 49, 50, 50, 10, 102, 114, 111, 110, 116, 32, 49, 49, 50, 50, 10, 114, 117, 110, 115, 32, 10] : List UInt8) ∧ (l4.length : Int) ≤ 1000000 → (l4 = ([114, 117, 110, 115, 32, 49, 42, 50, 32, 50, 42, 50, 10, 102, 114, 111,
 110, 116, 32, 49, 48, 50, 48, 10, 114, 117, 110, 115, 10, 108, 105, 110, 101, 115, 32, 51, 10] : List UInt8) → true = true) ∧ (¬l4 = ([114, 117, 110, 115, 32, 49, 42, 50, 32, 50, 42, 50, 10, 102, 114, 111, 110, 116, 32, 49, 48, 50, 48, 10,
 114, 117, 110, 115, 10, 108, 105, 110, 101, 115, 32, 51, 10] : List UInt8) → false = true)))
theorem v_l_FnScriptRuns : V_l_FnScriptRuns := by
  unfold V_l_FnScriptRuns
  intro code hz
  refine ⟨fun _ => rfl, fun hc => ⟨by omega, ?_⟩⟩
  intro s hs
  refine ⟨by omega, ?_⟩
  rintro a ⟨rfl, ha⟩
  refine ⟨by omega, ?_⟩
  rintro b ⟨rfl, hb⟩
  refine ⟨fun q => absurd rfl q, fun _ => ?_⟩

  refine ⟨by simp, ?_⟩
  rintro c ⟨rfl, _⟩
  have he : execD [114, 117, 110, 115, 32, 49, 49, 50, 50, 10, 102, 114, 111, 110, 116, 32, 49, 49, 50, 50, 10, 114, 117, 110, 115, 32, 10] = [114, 117, 110, 115, 32, 49, 42, 50, 32, 50, 42, 50, 10, 102, 114, 111, 110, 116, 32, 49, 48, 50, 48, 10, 114, 117, 110, 115, 10, 108, 105, 110, 101, 115, 32, 51, 10] := by decide +kernel
  exact ⟨fun _ => rfl, fun q => absurd he q⟩
def S_l_FnScriptRuns : FSpec where
  args := [.sc (.sl .u8)]
  outs := [.sc .bool]
  pre := fun a => match a with
    | [.sc (.sl .u8 code)] => (((code).length : Nat) : Int) ≤ 9223372036854775807
    | _ => False
  post := fun a r => match a, r with
    | [.sc (.sl .u8 code)], [.sc (.bool r)] => r = true
    | _, _ => False
  kept := false
theorem m_l_FnScriptRuns : Meets Tryz.prog 10 S_l_FnScriptRuns :=
  meets tok mixed Tryz.func10 (by kernel_rfl) (l := [(12, S_s_DrawExecute), (13, S_i_Execute), (14, S_s_Execute)]) ⟨m_s_DrawExecute, m_i_Execute, m_s_Execute, trivial⟩ (ann := []) v_l_FnScriptRuns (by kernel_rfl)
theorem a_l_FnScriptRuns : LawOf Tryz.prog Tryz.f10.params.toList S_l_FnScriptRuns where
  args := by kernel_rfl
  outs := rfl
  pre := AKs.all_iff.1 (show AKs.all S_l_FnScriptRuns.args (fun ds => bnds ds → S_l_FnScriptRuns.pre ds) from fun x0 h => h.1)
  post := AKs.all_iff.1 (show AKs.all S_l_FnScriptRuns.args (fun ds => ∀ b, S_l_FnScriptRuns.post ds [.sc (.bool b)] → b = true) from fun x0 _ h => h)
theorem own_FnScriptRuns : ownKnob Tryz.prog.godebug = none := by kernel_rfl
theorem tab_FnScriptRuns : Rows.fnScriptRunsRow.laid.filter (fun x => x.1 == "internal/strconv.uint64pow10") = [("internal/strconv.uint64pow10", Lib.tabData .u64 Lib.pow10Tab)] := by kernel_rfl
theorem gl_FnScriptRuns (W : World) (h : laidMetH Tryz.prog Rows.fnScriptRunsRow.laid W) : Gl Tryz.prog W (Old W) :=
  gl_of_laid (P := Tryz.prog) (g := 1) (t := 98) (e := 80) (n := 20) (fun x => x.1 == "internal/strconv.uint64pow10") tab_FnScriptRuns rfl (by kernel_rfl) (by kernel_rfl) Tryz.underlying98 Tryz.underlying80 (by kernel_rfl) (by kernel_rfl) W h
set_option maxRecDepth 100000 in
theorem lifted_l_FnScriptRuns (os : Os) (started : os.Started) (H : Type) (enc : TypeId × Value → H) :
    ReturnsInHanded {} Tryz.checked os 10 .any (fun w args => (Rows.fnScriptRunsSpec.pre enc Tryz.prog Tryz.f10 Rows.fnScriptRunsRow.domain false w args ∧ laidMetH Tryz.prog Rows.fnScriptRunsRow.laid w) ∧ sizedMet enc Tryz.prog Tryz.f10 (OpenSpec.ofChange Rows.fnScriptRunsSpec) false w args) (Rows.fnScriptRunsSpec.post enc Tryz.prog Tryz.f10 false true false false) :=
  law_lifted_laid (C := Tryz.checked) (F := S_l_FnScriptRuns) own_FnScriptRuns started (by kernel_rfl) Tryz.func10
    (ChangeSpec.witness_shaped (enc := enc) (C := Tryz.checked) (os := os) (X := fun w _ => laidMetH Tryz.prog Rows.fnScriptRunsRow.laid w) false (World.laidAll Tryz.prog os Rows.fnScriptRunsRow.laid) #[.slice none 0 0] 8 (World.laidAll_os _ _ _)
      (World.shaped_of_ZipB (by kernel_rfl) (by kernel_rfl)) (by kernel_rfl) (by kernel_rfl) (by kernel_rfl)
      (by rw [MakeChecks.laidMetH_plain _ _ _ (by kernel_rfl)]; exact laidMet_laidAll _ (by kernel_rfl) (by kernel_rfl)))
    m_l_FnScriptRuns a_l_FnScriptRuns (by kernel_rfl) (of_decide_eq_true (by kernel_rfl)) rfl (fun ds h => by match ds, h with | [d0], _ => rfl) (by kernel_rfl) Tryz.underlying4 gl_FnScriptRuns
theorem facts_FnScriptRuns : ∀ P : Program, P = Tryz.prog → P.initOrder.toList = ioNums.map Char.ofNat → joinedFacts P 10 Tryz.f10 Rows.fnScriptRunsSpec Rows.fnScriptRunsRow = true := by
  intro P hP h
  have h1 := io1 P hP h
  have h2 := io2 P hP h
  have h3 := io3 P hP h
  unfold joinedFacts
  rw [h1, h2, h3]
  subst hP
  show (_ : Bool) = true
  kernel_rfl
theorem proved_FnScriptRuns : Rows.FnScriptRunsSaid :=
  OpenClaim.holds_of_wide 10 Tryz.f10 rfl rfl rfl rfl rfl rfl rfl ⟨rfl, rfl, rfl, rfl, rfl⟩ rfl rfl rfl rfl rfl (by kernel_rfl) Tryz.func10 (facts_FnScriptRuns _ rfl ioL)
    (of_decide_eq_true (by kernel_rfl)) (by unfold Func.isWrapper; first | (rw [if_pos (by decide +kernel)]; kernel_rfl) | (rw [if_neg (by decide +kernel)]; exact ⟨rfl, rfl⟩))
    (fun os started H enc _ => lifted_l_FnScriptRuns os started H enc)
theorem plain_FnScriptRuns (g : FuncId) (fn : Func) (hf : Tryz.pinned.checked.prog.funcNamed Rows.fnScriptRunsRow.func = some g) (hfn : Tryz.pinned.checked.prog.funcs[g]? = some fn) :
    false = Tryz.pinned.checked.prog.looks [] ∧ ∀ (j : Nat) t, fn.params[j]? = some t → Tryz.pinned.checked.prog.wantsStandIn t = false := by
  obtain rfl : g = 10 := Option.some.inj ((show Tryz.prog.funcNamed Rows.fnScriptRunsRow.func = some 10 by kernel_rfl).symm.trans hf) |>.symm
  obtain rfl : fn = Tryz.f10 := (Option.some.inj (Tryz.func10.symm.trans hfn)).symm
  refine ⟨by kernel_rfl, fun j t ht => ?_⟩
  rw [Tryz.params10] at ht
  obtain rfl : t = 22 := by simpa using Array.mem_of_getElem? ht
  exact (show Tryz.prog.wantsStandIn 22 = false by kernel_rfl)
theorem card_FnScriptRuns : Rows.FnScriptRunsCardSaid :=
  Claim7.holds_tied_plain_at .later [] _ _ _ _ proved_FnScriptRuns (fun _ h => by cases h) (by kernel_rfl) (fun _ h => by cases h) fnScriptRuns_row_tie rfl ⟨rfl, rfl⟩ (by kernel_rfl) rfl plain_FnScriptRuns (by kernel_rfl)
end Go.Proofs.YtfnmhnbadepooaaGreatDoor
