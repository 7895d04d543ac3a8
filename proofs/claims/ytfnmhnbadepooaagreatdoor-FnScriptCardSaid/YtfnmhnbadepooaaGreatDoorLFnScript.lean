/-
  FnScript: for every input the law returns true, and each argument reads afterwards as it read before. No conditions.
-/
import Derived.Test.YtfnmhnbadepooaaGreatDoorCards
import Derived.Test.YtfnmhnbadepooaaGreatDoorTie
import Derived.Test.YtfnmhnbadepooaaGreatDoorExt
import Derived.SevenTiedAt
import Derived.Test.YtfnmhnbadepooaaGreatDoorRows
import Derived.Test.YtfnmhnbadepooaaGreatDoorT
import Derived.Test.YtfnmhnbadepooaaGreatDoorSa
import Derived.Test.YtfnmhnbadepooaaGreatDoorSb
import Derived.Test.YtfnmhnbadepooaaGreatDoorSg
import Derived.Test.YtfnmhnbadepooaaGreatDoorSj
import Derived.Test.YtfnmhnbadepooaaGreatDoorSk
import Derived.Test.YtfnmhnbadepooaaGreatDoorSl
import Derived.Test.YtfnmhnbadepooaaGreatDoorSm
import Derived.Test.YtfnmhnbadepooaaGreatDoorSn
import Derived.Test.YtfnmhnbadepooaaGreatDoorSo
import Derived.Test.YtfnmhnbadepooaaGreatDoorSp
import Derived.Test.YtfnmhnbadepooaaGreatDoorSq
import Derived.Test.YtfnmhnbadepooaaGreatDoorSu
import Derived.Test.YtfnmhnbadepooaaGreatDoorSv
import Derived.Test.YtfnmhnbadepooaaGreatDoorSw
set_option linter.unusedVariables false
set_option linter.unusedSimpArgs false
open Go Go.Ax Go.Mx Go.ChangeShapes Go.WideShapes Go.RowKit Go.ChangeAt
namespace Go.Proofs.YtfnmhnbadepooaaGreatDoor
def V_l_FnScript : Prop :=
  ∀ (l0 : List UInt8), (l0.length : Int) ≤ (9223372036854775807 : Int) → (1048576 < (l0.length : Int) → true = true) ∧ (¬1048576 < (l0.length : Int) → (l0.length : Int) ≤ 1099511627776 ∧ ∀ (l1 : List UInt8), (l1.length : Int) ≤ 4000 →
 (l1.length : Int) ≤ 2000000 ∧ ∀ (l2 : List UInt8), l2 = execD l1 ∧ (l2.length : Int) ≤ 1000000 → (l1.length : Int) ≤ 2000000 ∧ ∀ (l3 : List UInt8), l3 = execD l1 ∧ (l3.length : Int) ≤ 1000000 → (l2 ≠ l3 → (l2 = l3 → true = true) ∧ (¬l2 = l3
 → false = true)) ∧ (¬l2 ≠ l3 → (600 < (l1.length : Int) → (l2 = ([116, 111, 111, 32, 108, 111, 110, 103, 10] : List UInt8) → true = true) ∧ (¬l2 = ([116, 111, 111, 32, 108, 111, 110, 103, 10] : List UInt8) → false = true)) ∧ (¬600 <
 (l1.length : Int) → (↑(List.length ([] : List UInt8)) : Int) ≤ 2000000 ∧ ∀ (l4 : List UInt8), l4 = execD ([] : List UInt8) ∧ (l4.length : Int) ≤ 1000000 → (l4 = ([108, 105, 110, 101, 115, 32, 48, 10] : List UInt8) → (0 < (l2.length : Int) →
 true = true) ∧ (¬0 < (l2.length : Int) → false = true)) ∧ (¬l4 = ([108, 105, 110, 101, 115, 32, 48, 10] : List UInt8) → false = true))))
theorem v_l_FnScript : V_l_FnScript := by
  unfold V_l_FnScript
  intro code hz
  refine ⟨fun _ => rfl, fun hc => ⟨by omega, ?_⟩⟩
  intro s hs
  refine ⟨by omega, ?_⟩
  rintro a ⟨rfl, ha⟩
  refine ⟨by omega, ?_⟩
  rintro b ⟨rfl, hb⟩
  refine ⟨fun q => absurd rfl q, fun _ => ?_⟩

  refine ⟨fun h => ⟨fun _ => rfl, fun q => absurd (execD_long h) q⟩, fun h => ⟨by simp, ?_⟩⟩
  rintro c ⟨rfl, _⟩
  have he : execD [] = [108, 105, 110, 101, 115, 32, 48, 10] := by decide +kernel
  refine ⟨fun _ => ⟨fun _ => rfl, fun q => ?_⟩, fun q => absurd he q⟩
  refine absurd ?_ q
  rw [execD_of h, endS_eq]
  simp only [List.length_append, List.length_cons, List.length_nil]
  omega
def S_l_FnScript : FSpec where
  args := [.sc (.sl .u8)]
  outs := [.sc .bool]
  pre := fun a => match a with
    | [.sc (.sl .u8 code)] => (((code).length : Nat) : Int) ≤ 9223372036854775807
    | _ => False
  post := fun a r => match a, r with
    | [.sc (.sl .u8 code)], [.sc (.bool r)] => r = true
    | _, _ => False
  kept := false
theorem m_l_FnScript : Meets Tryz.prog 7 S_l_FnScript :=
  meets tok mixed Tryz.func7 (by kernel_rfl) (l := [(12, S_s_DrawExecute), (13, S_i_Execute), (14, S_s_Execute)]) ⟨m_s_DrawExecute, m_i_Execute, m_s_Execute, trivial⟩ (ann := []) v_l_FnScript (by kernel_rfl)
theorem a_l_FnScript : LawOf Tryz.prog Tryz.f7.params.toList S_l_FnScript where
  args := by kernel_rfl
  outs := rfl
  pre := AKs.all_iff.1 (show AKs.all S_l_FnScript.args (fun ds => bnds ds → S_l_FnScript.pre ds) from fun x0 h => h.1)
  post := AKs.all_iff.1 (show AKs.all S_l_FnScript.args (fun ds => ∀ b, S_l_FnScript.post ds [.sc (.bool b)] → b = true) from fun x0 _ h => h)
theorem own_FnScript : ownKnob Tryz.prog.godebug = none := by kernel_rfl
theorem tab_FnScript : Rows.fnScriptRow.laid.filter (fun x => x.1 == "internal/strconv.uint64pow10") = [("internal/strconv.uint64pow10", Lib.tabData .u64 Lib.pow10Tab)] := by kernel_rfl
theorem gl_FnScript (W : World) (h : laidMetH Tryz.prog Rows.fnScriptRow.laid W) : Gl Tryz.prog W (Old W) :=
  gl_of_laid (P := Tryz.prog) (g := 1) (t := 98) (e := 80) (n := 20) (fun x => x.1 == "internal/strconv.uint64pow10") tab_FnScript rfl (by kernel_rfl) (by kernel_rfl) Tryz.underlying98 Tryz.underlying80 (by kernel_rfl) (by kernel_rfl) W h
set_option maxRecDepth 100000 in
theorem lifted_l_FnScript (os : Os) (started : os.Started) (H : Type) (enc : TypeId × Value → H) :
    ReturnsInHanded {} Tryz.checked os 7 .any (fun w args => (Rows.fnScriptSpec.pre enc Tryz.prog Tryz.f7 Rows.fnScriptRow.domain false w args ∧ laidMetH Tryz.prog Rows.fnScriptRow.laid w) ∧ sizedMet enc Tryz.prog Tryz.f7 (OpenSpec.ofChange Rows.fnScriptSpec) false w args) (Rows.fnScriptSpec.post enc Tryz.prog Tryz.f7 false true false false) :=
  law_lifted_laid (C := Tryz.checked) (F := S_l_FnScript) own_FnScript started (by kernel_rfl) Tryz.func7
    (ChangeSpec.witness_shaped (enc := enc) (C := Tryz.checked) (os := os) (X := fun w _ => laidMetH Tryz.prog Rows.fnScriptRow.laid w) false (World.laidAll Tryz.prog os Rows.fnScriptRow.laid) #[.slice none 0 0] 8 (World.laidAll_os _ _ _)
      (World.shaped_of_ZipB (by kernel_rfl) (by kernel_rfl)) (by kernel_rfl) (by kernel_rfl) (by kernel_rfl)
      (by rw [MakeChecks.laidMetH_plain _ _ _ (by kernel_rfl)]; exact laidMet_laidAll _ (by kernel_rfl) (by kernel_rfl)))
    m_l_FnScript a_l_FnScript (by kernel_rfl) (of_decide_eq_true (by kernel_rfl)) rfl (fun ds h => by match ds, h with | [d0], _ => rfl) (by kernel_rfl) Tryz.underlying4 gl_FnScript
theorem facts_FnScript : ∀ P : Program, P = Tryz.prog → P.initOrder.toList = ioNums.map Char.ofNat → joinedFacts P 7 Tryz.f7 Rows.fnScriptSpec Rows.fnScriptRow = true := by
  intro P hP h
  have h1 := io1 P hP h
  have h2 := io2 P hP h
  have h3 := io3 P hP h
  unfold joinedFacts
  rw [h1, h2, h3]
  subst hP
  show (_ : Bool) = true
  kernel_rfl
theorem proved_FnScript : Rows.FnScriptSaid :=
  OpenClaim.holds_of_wide 7 Tryz.f7 rfl rfl rfl rfl rfl rfl rfl ⟨rfl, rfl, rfl, rfl, rfl⟩ rfl rfl rfl rfl rfl (by kernel_rfl) Tryz.func7 (facts_FnScript _ rfl ioL)
    (of_decide_eq_true (by kernel_rfl)) (by unfold Func.isWrapper; first | (rw [if_pos (by decide +kernel)]; kernel_rfl) | (rw [if_neg (by decide +kernel)]; exact ⟨rfl, rfl⟩))
    (fun os started H enc _ => lifted_l_FnScript os started H enc)
theorem plain_FnScript (g : FuncId) (fn : Func) (hf : Tryz.pinned.checked.prog.funcNamed Rows.fnScriptRow.func = some g) (hfn : Tryz.pinned.checked.prog.funcs[g]? = some fn) :
    false = Tryz.pinned.checked.prog.looks [] ∧ ∀ (j : Nat) t, fn.params[j]? = some t → Tryz.pinned.checked.prog.wantsStandIn t = false := by
  obtain rfl : g = 7 := Option.some.inj ((show Tryz.prog.funcNamed Rows.fnScriptRow.func = some 7 by kernel_rfl).symm.trans hf) |>.symm
  obtain rfl : fn = Tryz.f7 := (Option.some.inj (Tryz.func7.symm.trans hfn)).symm
  refine ⟨by kernel_rfl, fun j t ht => ?_⟩
  rw [Tryz.params7] at ht
  obtain rfl : t = 22 := by simpa using Array.mem_of_getElem? ht
  exact (show Tryz.prog.wantsStandIn 22 = false by kernel_rfl)
theorem card_FnScript : Rows.FnScriptCardSaid :=
  Claim7.holds_tied_plain_at .later [] _ _ _ _ proved_FnScript (fun _ h => by cases h) (by kernel_rfl) (fun _ h => by cases h) fnScript_row_tie rfl ⟨rfl, rfl⟩ (by kernel_rfl) rfl plain_FnScript (by kernel_rfl)
end Go.Proofs.YtfnmhnbadepooaaGreatDoor
