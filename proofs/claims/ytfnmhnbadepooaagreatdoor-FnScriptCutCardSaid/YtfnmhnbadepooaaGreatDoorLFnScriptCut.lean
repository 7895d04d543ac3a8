/-
  FnScriptCut: for every input the law returns true, and each argument reads afterwards as it read before. No conditions.
-/
import Derived.Test.YtfnmhnbadepooaaGreatDoorCards
import Derived.Test.YtfnmhnbadepooaaGreatDoorTie
import Derived.Test.YtfnmhnbadepooaaGreatDoorExt
import Derived.SevenTiedAt
import Derived.Test.YtfnmhnbadepooaaGreatDoorRows
import Derived.Test.YtfnmhnbadepooaaGreatDoorT
import Derived.Test.YtfnmhnbadepooaaGreatDoorSa
import Derived.Test.YtfnmhnbadepooaaGreatDoorSb
import Derived.Test.YtfnmhnbadepooaaGreatDoorSg
import Derived.Test.YtfnmhnbadepooaaGreatDoorSj
import Derived.Test.YtfnmhnbadepooaaGreatDoorSk
import Derived.Test.YtfnmhnbadepooaaGreatDoorSl
import Derived.Test.YtfnmhnbadepooaaGreatDoorSm
import Derived.Test.YtfnmhnbadepooaaGreatDoorSn
import Derived.Test.YtfnmhnbadepooaaGreatDoorSo
import Derived.Test.YtfnmhnbadepooaaGreatDoorSp
import Derived.Test.YtfnmhnbadepooaaGreatDoorSq
import Derived.Test.YtfnmhnbadepooaaGreatDoorSu
import Derived.Test.YtfnmhnbadepooaaGreatDoorSv
import Derived.Test.YtfnmhnbadepooaaGreatDoorSw
set_option linter.unusedVariables false
set_option linter.unusedSimpArgs false
open Go Go.Ax Go.Mx Go.ChangeShapes Go.WideShapes Go.RowKit Go.ChangeAt
namespace Go.Proofs.YtfnmhnbadepooaaGreatDoor
def V_l_FnScriptCut : Prop :=
  ∀ (l0 : List UInt8), (l0.length : Int) ≤ (9223372036854775807 : Int) → (1048576 < (l0.length : Int) → true = true) ∧ (¬1048576 < (l0.length : Int) → (l0.length : Int) ≤ 1099511627776 ∧ ∀ (l1 : List UInt8), (l1.length : Int) ≤ 4000 →
 (l1.length : Int) ≤ 2000000 ∧ ∀ (l2 : List UInt8), l2 = execD l1 ∧ (l2.length : Int) ≤ 1000000 → (l1.length : Int) ≤ 2000000 ∧ ∀ (l3 : List UInt8), l3 = execD l1 ∧ (l3.length : Int) ≤ 1000000 → (l2 ≠ l3 → (l2 = l3 → true = true) ∧ (¬l2 = l3
 → false = true)) ∧ (¬l2 ≠ l3 → (600 < (l1.length : Int) → (l2 = l3 → true = true) ∧ (¬l2 = l3 → false = true)) ∧ (¬600 < (l1.length : Int) → (l1.length : Int) ≤ 2000000 ∧ ∀ (l4 : List UInt8), l4 = complS l1 ∧ (l4.length : Int) ≤ (l1.length :
 Int) → (l4.length : Int) ≤ 2000000 ∧ ∀ (l5 : List UInt8), l5 = execD l4 ∧ (l5.length : Int) ≤ 1000000 → (l5 = l2 → true = true) ∧ (¬l5 = l2 → false = true))))
theorem v_l_FnScriptCut : V_l_FnScriptCut := by
  unfold V_l_FnScriptCut
  intro code hz
  refine ⟨fun _ => rfl, fun hc => ⟨by omega, ?_⟩⟩
  intro s hs
  refine ⟨by omega, ?_⟩
  rintro a ⟨rfl, ha⟩
  refine ⟨by omega, ?_⟩
  rintro b ⟨rfl, hb⟩
  refine ⟨fun q => absurd rfl q, fun _ => ?_⟩

  refine ⟨fun _ => ⟨fun _ => rfl, fun q => absurd rfl q⟩, fun h => ⟨by omega, ?_⟩⟩
  rintro c ⟨rfl, hc2⟩
  refine ⟨by omega, ?_⟩
  rintro d ⟨rfl, _⟩
  have : execD (complS s) = execD s := by rw [execD_of h, execD_of (by omega), linesD_compl]
  exact ⟨fun _ => rfl, fun q => absurd this q⟩
def S_l_FnScriptCut : FSpec where
  args := [.sc (.sl .u8)]
  outs := [.sc .bool]
  pre := fun a => match a with
    | [.sc (.sl .u8 code)] => (((code).length : Nat) : Int) ≤ 9223372036854775807
    | _ => False
  post := fun a r => match a, r with
    | [.sc (.sl .u8 code)], [.sc (.bool r)] => r = true
    | _, _ => False
  kept := false
theorem m_l_FnScriptCut : Meets Tryz.prog 4 S_l_FnScriptCut :=
  meets tok mixed Tryz.func4 (by kernel_rfl) (l := [(12, S_s_DrawExecute), (13, S_i_Execute), (14, S_s_Execute), (15, S_l_completeLines)]) ⟨m_s_DrawExecute, m_i_Execute, m_s_Execute, m_l_completeLines, trivial⟩ (ann := []) v_l_FnScriptCut (by kernel_rfl)
theorem a_l_FnScriptCut : LawOf Tryz.prog Tryz.f4.params.toList S_l_FnScriptCut where
  args := by kernel_rfl
  outs := rfl
  pre := AKs.all_iff.1 (show AKs.all S_l_FnScriptCut.args (fun ds => bnds ds → S_l_FnScriptCut.pre ds) from fun x0 h => h.1)
  post := AKs.all_iff.1 (show AKs.all S_l_FnScriptCut.args (fun ds => ∀ b, S_l_FnScriptCut.post ds [.sc (.bool b)] → b = true) from fun x0 _ h => h)
theorem own_FnScriptCut : ownKnob Tryz.prog.godebug = none := by kernel_rfl
theorem tab_FnScriptCut : Rows.fnScriptCutRow.laid.filter (fun x => x.1 == "internal/strconv.uint64pow10") = [("internal/strconv.uint64pow10", Lib.tabData .u64 Lib.pow10Tab)] := by kernel_rfl
theorem gl_FnScriptCut (W : World) (h : laidMetH Tryz.prog Rows.fnScriptCutRow.laid W) : Gl Tryz.prog W (Old W) :=
  gl_of_laid (P := Tryz.prog) (g := 1) (t := 98) (e := 80) (n := 20) (fun x => x.1 == "internal/strconv.uint64pow10") tab_FnScriptCut rfl (by kernel_rfl) (by kernel_rfl) Tryz.underlying98 Tryz.underlying80 (by kernel_rfl) (by kernel_rfl) W h
set_option maxRecDepth 100000 in
theorem lifted_l_FnScriptCut (os : Os) (started : os.Started) (H : Type) (enc : TypeId × Value → H) :
    ReturnsInHanded {} Tryz.checked os 4 .any (fun w args => (Rows.fnScriptCutSpec.pre enc Tryz.prog Tryz.f4 Rows.fnScriptCutRow.domain false w args ∧ laidMetH Tryz.prog Rows.fnScriptCutRow.laid w) ∧ sizedMet enc Tryz.prog Tryz.f4 (OpenSpec.ofChange Rows.fnScriptCutSpec) false w args) (Rows.fnScriptCutSpec.post enc Tryz.prog Tryz.f4 false true false false) :=
  law_lifted_laid (C := Tryz.checked) (F := S_l_FnScriptCut) own_FnScriptCut started (by kernel_rfl) Tryz.func4
    (ChangeSpec.witness_shaped (enc := enc) (C := Tryz.checked) (os := os) (X := fun w _ => laidMetH Tryz.prog Rows.fnScriptCutRow.laid w) false (World.laidAll Tryz.prog os Rows.fnScriptCutRow.laid) #[.slice none 0 0] 8 (World.laidAll_os _ _ _)
      (World.shaped_of_ZipB (by kernel_rfl) (by kernel_rfl)) (by kernel_rfl) (by kernel_rfl) (by kernel_rfl)
      (by rw [MakeChecks.laidMetH_plain _ _ _ (by kernel_rfl)]; exact laidMet_laidAll _ (by kernel_rfl) (by kernel_rfl)))
    m_l_FnScriptCut a_l_FnScriptCut (by kernel_rfl) (of_decide_eq_true (by kernel_rfl)) rfl (fun ds h => by match ds, h with | [d0], _ => rfl) (by kernel_rfl) Tryz.underlying4 gl_FnScriptCut
theorem facts_FnScriptCut : ∀ P : Program, P = Tryz.prog → P.initOrder.toList = ioNums.map Char.ofNat → joinedFacts P 4 Tryz.f4 Rows.fnScriptCutSpec Rows.fnScriptCutRow = true := by
  intro P hP h
  have h1 := io1 P hP h
  have h2 := io2 P hP h
  have h3 := io3 P hP h
  unfold joinedFacts
  rw [h1, h2, h3]
  subst hP
  show (_ : Bool) = true
  kernel_rfl
theorem proved_FnScriptCut : Rows.FnScriptCutSaid :=
  OpenClaim.holds_of_wide 4 Tryz.f4 rfl rfl rfl rfl rfl rfl rfl ⟨rfl, rfl, rfl, rfl, rfl⟩ rfl rfl rfl rfl rfl (by kernel_rfl) Tryz.func4 (facts_FnScriptCut _ rfl ioL)
    (of_decide_eq_true (by kernel_rfl)) (by unfold Func.isWrapper; first | (rw [if_pos (by decide +kernel)]; kernel_rfl) | (rw [if_neg (by decide +kernel)]; exact ⟨rfl, rfl⟩))
    (fun os started H enc _ => lifted_l_FnScriptCut os started H enc)
theorem plain_FnScriptCut (g : FuncId) (fn : Func) (hf : Tryz.pinned.checked.prog.funcNamed Rows.fnScriptCutRow.func = some g) (hfn : Tryz.pinned.checked.prog.funcs[g]? = some fn) :
    false = Tryz.pinned.checked.prog.looks [] ∧ ∀ (j : Nat) t, fn.params[j]? = some t → Tryz.pinned.checked.prog.wantsStandIn t = false := by
  obtain rfl : g = 4 := Option.some.inj ((show Tryz.prog.funcNamed Rows.fnScriptCutRow.func = some 4 by kernel_rfl).symm.trans hf) |>.symm
  obtain rfl : fn = Tryz.f4 := (Option.some.inj (Tryz.func4.symm.trans hfn)).symm
  refine ⟨by kernel_rfl, fun j t ht => ?_⟩
  rw [Tryz.params4] at ht
  obtain rfl : t = 22 := by simpa using Array.mem_of_getElem? ht
  exact (show Tryz.prog.wantsStandIn 22 = false by kernel_rfl)
theorem card_FnScriptCut : Rows.FnScriptCutCardSaid :=
  Claim7.holds_tied_plain_at .later [] _ _ _ _ proved_FnScriptCut (fun _ h => by cases h) (by kernel_rfl) (fun _ h => by cases h) fnScriptCut_row_tie rfl ⟨rfl, rfl⟩ (by kernel_rfl) rfl plain_FnScriptCut (by kernel_rfl)
end Go.Proofs.YtfnmhnbadepooaaGreatDoor
