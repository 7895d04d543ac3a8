/-
  FnScriptTurn: for every input the law returns true, and each argument reads afterwards as it read before. No conditions.
-/
import Derived.Test.YtfnmhnbadepooaaGreatDoorCards
import Derived.Test.YtfnmhnbadepooaaGreatDoorTie
import Derived.Test.YtfnmhnbadepooaaGreatDoorExt
import Derived.SevenTiedAt
import Derived.Test.YtfnmhnbadepooaaGreatDoorRows
import Derived.Test.YtfnmhnbadepooaaGreatDoorT
import Derived.Test.YtfnmhnbadepooaaGreatDoorSa
import Derived.Test.YtfnmhnbadepooaaGreatDoorSb
import Derived.Test.YtfnmhnbadepooaaGreatDoorSg
import Derived.Test.YtfnmhnbadepooaaGreatDoorSj
import Derived.Test.YtfnmhnbadepooaaGreatDoorSk
import Derived.Test.YtfnmhnbadepooaaGreatDoorSl
import Derived.Test.YtfnmhnbadepooaaGreatDoorSm
import Derived.Test.YtfnmhnbadepooaaGreatDoorSn
import Derived.Test.YtfnmhnbadepooaaGreatDoorSo
import Derived.Test.YtfnmhnbadepooaaGreatDoorSp
import Derived.Test.YtfnmhnbadepooaaGreatDoorSq
import Derived.Test.YtfnmhnbadepooaaGreatDoorSu
import Derived.Test.YtfnmhnbadepooaaGreatDoorSv
import Derived.Test.YtfnmhnbadepooaaGreatDoorSw
set_option linter.unusedVariables false
set_option linter.unusedSimpArgs false
open Go Go.Ax Go.Mx Go.ChangeShapes Go.WideShapes Go.RowKit Go.ChangeAt
namespace Go.Proofs.YtfnmhnbadepooaaGreatDoor
def V_l_FnScriptTurn : Prop :=
  ∀ (l0 : List UInt8), (l0.length : Int) ≤ (9223372036854775807 : Int) → (1048576 < (l0.length : Int) → true = true) ∧ (¬1048576 < (l0.length : Int) → (l0.length : Int) ≤ 1099511627776 ∧ ∀ (l1 : List UInt8), (l1.length : Int) ≤ 4000 →
 (l1.length : Int) ≤ 2000000 ∧ ∀ (l2 : List UInt8), l2 = execD l1 ∧ (l2.length : Int) ≤ 1000000 → (l1.length : Int) ≤ 2000000 ∧ ∀ (l3 : List UInt8), l3 = execD l1 ∧ (l3.length : Int) ≤ 1000000 → (l2 ≠ l3 → (l2 = l3 → true = true) ∧ (¬l2 = l3
 → false = true)) ∧ (¬l2 ≠ l3 → (↑(List.length ([116, 117, 114, 110, 32, 49, 48, 49, 48, 10, 116, 117, 114, 110, 32, 49, 50, 48, 10] : List UInt8)) : Int) ≤ 2000000 ∧ ∀ (l4 : List UInt8), l4 = execD ([116, 117, 114, 110, 32, 49, 48, 49, 48,
 10, 116, 117, 114, 110, 32, 49, 50, 48, 10] : List UInt8) ∧ (l4.length : Int) ≤ 1000000 → (l4 = ([116, 117, 114, 110, 32, 49, 49, 48, 48, 32, 50, 10, 116, 117, 114, 110, 32, 50, 48, 49, 32, 49, 10, 108, 105, 110, 101, 115, 32, 50, 10] : List
 UInt8) → true = true) ∧ (¬l4 = ([116, 117, 114, 110, 32, 49, 49, 48, 48, 32, 50, 10, 116, 117, 114, 110, 32, 50, 48, 49, 32, 49, 10, 108, 105, 110, 101, 115, 32, 50, 10] : List UInt8) → false = true)))
theorem v_l_FnScriptTurn : V_l_FnScriptTurn := by
  unfold V_l_FnScriptTurn
  intro code hz
  refine ⟨fun _ => rfl, fun hc => ⟨by omega, ?_⟩⟩
  intro s hs
  refine ⟨by omega, ?_⟩
  rintro a ⟨rfl, ha⟩
  refine ⟨by omega, ?_⟩
  rintro b ⟨rfl, hb⟩
  refine ⟨fun q => absurd rfl q, fun _ => ?_⟩

  refine ⟨by simp, ?_⟩
  rintro c ⟨rfl, _⟩
  have he : execD [116, 117, 114, 110, 32, 49, 48, 49, 48, 10, 116, 117, 114, 110, 32, 49, 50, 48, 10] = [116, 117, 114, 110, 32, 49, 49, 48, 48, 32, 50, 10, 116, 117, 114, 110, 32, 50, 48, 49, 32, 49, 10, 108, 105, 110, 101, 115, 32, 50, 10] := by decide +kernel
  exact ⟨fun _ => rfl, fun q => absurd he q⟩
def S_l_FnScriptTurn : FSpec where
  args := [.sc (.sl .u8)]
  outs := [.sc .bool]
  pre := fun a => match a with
    | [.sc (.sl .u8 code)] => (((code).length : Nat) : Int) ≤ 9223372036854775807
    | _ => False
  post := fun a r => match a, r with
    | [.sc (.sl .u8 code)], [.sc (.bool r)] => r = true
    | _, _ => False
  kept := false
theorem m_l_FnScriptTurn : Meets Tryz.prog 3 S_l_FnScriptTurn :=
  meets tok mixed Tryz.func3 (by kernel_rfl) (l := [(12, S_s_DrawExecute), (13, S_i_Execute), (14, S_s_Execute)]) ⟨m_s_DrawExecute, m_i_Execute, m_s_Execute, trivial⟩ (ann := []) v_l_FnScriptTurn (by kernel_rfl)
theorem a_l_FnScriptTurn : LawOf Tryz.prog Tryz.f3.params.toList S_l_FnScriptTurn where
  args := by kernel_rfl
  outs := rfl
  pre := AKs.all_iff.1 (show AKs.all S_l_FnScriptTurn.args (fun ds => bnds ds → S_l_FnScriptTurn.pre ds) from fun x0 h => h.1)
  post := AKs.all_iff.1 (show AKs.all S_l_FnScriptTurn.args (fun ds => ∀ b, S_l_FnScriptTurn.post ds [.sc (.bool b)] → b = true) from fun x0 _ h => h)
theorem own_FnScriptTurn : ownKnob Tryz.prog.godebug = none := by kernel_rfl
theorem tab_FnScriptTurn : Rows.fnScriptTurnRow.laid.filter (fun x => x.1 == "internal/strconv.uint64pow10") = [("internal/strconv.uint64pow10", Lib.tabData .u64 Lib.pow10Tab)] := by kernel_rfl
theorem gl_FnScriptTurn (W : World) (h : laidMetH Tryz.prog Rows.fnScriptTurnRow.laid W) : Gl Tryz.prog W (Old W) :=
  gl_of_laid (P := Tryz.prog) (g := 1) (t := 98) (e := 80) (n := 20) (fun x => x.1 == "internal/strconv.uint64pow10") tab_FnScriptTurn rfl (by kernel_rfl) (by kernel_rfl) Tryz.underlying98 Tryz.underlying80 (by kernel_rfl) (by kernel_rfl) W h
set_option maxRecDepth 100000 in
theorem lifted_l_FnScriptTurn (os : Os) (started : os.Started) (H : Type) (enc : TypeId × Value → H) :
    ReturnsInHanded {} Tryz.checked os 3 .any (fun w args => (Rows.fnScriptTurnSpec.pre enc Tryz.prog Tryz.f3 Rows.fnScriptTurnRow.domain false w args ∧ laidMetH Tryz.prog Rows.fnScriptTurnRow.laid w) ∧ sizedMet enc Tryz.prog Tryz.f3 (OpenSpec.ofChange Rows.fnScriptTurnSpec) false w args) (Rows.fnScriptTurnSpec.post enc Tryz.prog Tryz.f3 false true false false) :=
  law_lifted_laid (C := Tryz.checked) (F := S_l_FnScriptTurn) own_FnScriptTurn started (by kernel_rfl) Tryz.func3
    (ChangeSpec.witness_shaped (enc := enc) (C := Tryz.checked) (os := os) (X := fun w _ => laidMetH Tryz.prog Rows.fnScriptTurnRow.laid w) false (World.laidAll Tryz.prog os Rows.fnScriptTurnRow.laid) #[.slice none 0 0] 8 (World.laidAll_os _ _ _)
      (World.shaped_of_ZipB (by kernel_rfl) (by kernel_rfl)) (by kernel_rfl) (by kernel_rfl) (by kernel_rfl)
      (by rw [MakeChecks.laidMetH_plain _ _ _ (by kernel_rfl)]; exact laidMet_laidAll _ (by kernel_rfl) (by kernel_rfl)))
    m_l_FnScriptTurn a_l_FnScriptTurn (by kernel_rfl) (of_decide_eq_true (by kernel_rfl)) rfl (fun ds h => by match ds, h with | [d0], _ => rfl) (by kernel_rfl) Tryz.underlying4 gl_FnScriptTurn
theorem facts_FnScriptTurn : ∀ P : Program, P = Tryz.prog → P.initOrder.toList = ioNums.map Char.ofNat → joinedFacts P 3 Tryz.f3 Rows.fnScriptTurnSpec Rows.fnScriptTurnRow = true := by
  intro P hP h
  have h1 := io1 P hP h
  have h2 := io2 P hP h
  have h3 := io3 P hP h
  unfold joinedFacts
  rw [h1, h2, h3]
  subst hP
  show (_ : Bool) = true
  kernel_rfl
theorem proved_FnScriptTurn : Rows.FnScriptTurnSaid :=
  OpenClaim.holds_of_wide 3 Tryz.f3 rfl rfl rfl rfl rfl rfl rfl ⟨rfl, rfl, rfl, rfl, rfl⟩ rfl rfl rfl rfl rfl (by kernel_rfl) Tryz.func3 (facts_FnScriptTurn _ rfl ioL)
    (of_decide_eq_true (by kernel_rfl)) (by unfold Func.isWrapper; first | (rw [if_pos (by decide +kernel)]; kernel_rfl) | (rw [if_neg (by decide +kernel)]; exact ⟨rfl, rfl⟩))
    (fun os started H enc _ => lifted_l_FnScriptTurn os started H enc)
theorem plain_FnScriptTurn (g : FuncId) (fn : Func) (hf : Tryz.pinned.checked.prog.funcNamed Rows.fnScriptTurnRow.func = some g) (hfn : Tryz.pinned.checked.prog.funcs[g]? = some fn) :
    false = Tryz.pinned.checked.prog.looks [] ∧ ∀ (j : Nat) t, fn.params[j]? = some t → Tryz.pinned.checked.prog.wantsStandIn t = false := by
  obtain rfl : g = 3 := Option.some.inj ((show Tryz.prog.funcNamed Rows.fnScriptTurnRow.func = some 3 by kernel_rfl).symm.trans hf) |>.symm
  obtain rfl : fn = Tryz.f3 := (Option.some.inj (Tryz.func3.symm.trans hfn)).symm
  refine ⟨by kernel_rfl, fun j t ht => ?_⟩
  rw [Tryz.params3] at ht
  obtain rfl : t = 22 := by simpa using Array.mem_of_getElem? ht
  exact (show Tryz.prog.wantsStandIn 22 = false by kernel_rfl)
theorem card_FnScriptTurn : Rows.FnScriptTurnCardSaid :=
  Claim7.holds_tied_plain_at .later [] _ _ _ _ proved_FnScriptTurn (fun _ h => by cases h) (by kernel_rfl) (fun _ h => by cases h) fnScriptTurn_row_tie rfl ⟨rfl, rfl⟩ (by kernel_rfl) rfl plain_FnScriptTurn (by kernel_rfl)
end Go.Proofs.YtfnmhnbadepooaaGreatDoor
