/-
  FnScriptTokens: for every input the law returns true, and each argument reads afterwards as it read before. No conditions.
-/
import Derived.Test.YtfnmhnbadepooaaGreatDoorCards
import Derived.Test.YtfnmhnbadepooaaGreatDoorTie
import Derived.Test.YtfnmhnbadepooaaGreatDoorExt
import Derived.SevenTiedAt
import Derived.Test.YtfnmhnbadepooaaGreatDoorRows
import Derived.Test.YtfnmhnbadepooaaGreatDoorT
import Derived.Test.YtfnmhnbadepooaaGreatDoorSa
import Derived.Test.YtfnmhnbadepooaaGreatDoorSb
import Derived.Test.YtfnmhnbadepooaaGreatDoorSg
import Derived.Test.YtfnmhnbadepooaaGreatDoorSj
import Derived.Test.YtfnmhnbadepooaaGreatDoorSk
import Derived.Test.YtfnmhnbadepooaaGreatDoorSl
import Derived.Test.YtfnmhnbadepooaaGreatDoorSm
import Derived.Test.YtfnmhnbadepooaaGreatDoorSn
import Derived.Test.YtfnmhnbadepooaaGreatDoorSo
import Derived.Test.YtfnmhnbadepooaaGreatDoorSp
import Derived.Test.YtfnmhnbadepooaaGreatDoorSq
import Derived.Test.YtfnmhnbadepooaaGreatDoorSu
import Derived.Test.YtfnmhnbadepooaaGreatDoorSv
import Derived.Test.YtfnmhnbadepooaaGreatDoorSw
set_option linter.unusedVariables false
set_option linter.unusedSimpArgs false
open Go Go.Ax Go.Mx Go.ChangeShapes Go.WideShapes Go.RowKit Go.ChangeAt
namespace Go.Proofs.YtfnmhnbadepooaaGreatDoor
def V_l_FnScriptTokens : Prop :=
  ∀ (l0 : List UInt8), (l0.length : Int) ≤ (9223372036854775807 : Int) → (1048576 < (l0.length : Int) → true = true) ∧ (¬1048576 < (l0.length : Int) → (l0.length : Int) ≤ 1099511627776 ∧ ∀ (l1 : List UInt8), (l1.length : Int) ≤ 4000 →
 (l1.length : Int) ≤ 2000000 ∧ ∀ (l2 : List UInt8), l2 = execD l1 ∧ (l2.length : Int) ≤ 1000000 → (l1.length : Int) ≤ 2000000 ∧ ∀ (l3 : List UInt8), l3 = execD l1 ∧ (l3.length : Int) ≤ 1000000 → (l2 ≠ l3 → (l2 = l3 → true = true) ∧ (¬l2 = l3
 → false = true)) ∧ (¬l2 ≠ l3 → (↑(List.length ([103, 114, 101, 101, 100, 121, 32, 48, 49, 48, 49, 48, 49, 48, 49, 10, 98, 101, 115, 116, 32, 48, 49, 48, 48, 10, 103, 114, 101, 101, 100, 121, 32, 48, 49, 48, 49, 10] : List UInt8)) : Int) ≤
 2000000 ∧ ∀ (l4 : List UInt8), l4 = execD ([103, 114, 101, 101, 100, 121, 32, 48, 49, 48, 49, 48, 49, 48, 49, 10, 98, 101, 115, 116, 32, 48, 49, 48, 48, 10, 103, 114, 101, 101, 100, 121, 32, 48, 49, 48, 49, 10] : List UInt8) ∧ (l4.length :
 Int) ≤ 1000000 → (l4 = ([116, 111, 107, 101, 110, 115, 32, 48, 32, 49, 32, 50, 58, 54, 10, 116, 111, 107, 101, 110, 115, 32, 48, 32, 49, 32, 48, 32, 48, 10, 116, 111, 107, 101, 110, 115, 32, 48, 32, 49, 32, 50, 58, 50, 10, 108, 105, 110,
 101, 115, 32, 51, 10] : List UInt8) → true = true) ∧ (¬l4 = ([116, 111, 107, 101, 110, 115, 32, 48, 32, 49, 32, 50, 58, 54, 10, 116, 111, 107, 101, 110, 115, 32, 48, 32, 49, 32, 48, 32, 48, 10, 116, 111, 107, 101, 110, 115, 32, 48, 32, 49,
 32, 50, 58, 50, 10, 108, 105, 110, 101, 115, 32, 51, 10] : List UInt8) → false = true)))
theorem v_l_FnScriptTokens : V_l_FnScriptTokens := by
  unfold V_l_FnScriptTokens
  intro code hz
  refine ⟨fun _ => rfl, fun hc => ⟨by omega, ?_⟩⟩
  intro s hs
  refine ⟨by omega, ?_⟩
  rintro a ⟨rfl, ha⟩
  refine ⟨by omega, ?_⟩
  rintro b ⟨rfl, hb⟩
  refine ⟨fun q => absurd rfl q, fun _ => ?_⟩

  refine ⟨by simp, ?_⟩
  rintro c ⟨rfl, _⟩
  have he : execD [103, 114, 101, 101, 100, 121, 32, 48, 49, 48, 49, 48, 49, 48, 49, 10, 98, 101, 115, 116, 32, 48, 49, 48, 48, 10, 103, 114, 101, 101, 100, 121, 32, 48, 49, 48, 49, 10] = [116, 111, 107, 101, 110, 115, 32, 48, 32, 49, 32, 50, 58, 54, 10, 116, 111, 107, 101, 110, 115, 32, 48, 32, 49, 32, 48, 32, 48, 10, 116, 111, 107, 101, 110, 115, 32, 48, 32, 49, 32, 50, 58, 50, 10, 108, 105, 110, 101, 115, 32, 51, 10] := by decide +kernel
  exact ⟨fun _ => rfl, fun q => absurd he q⟩
def S_l_FnScriptTokens : FSpec where
  args := [.sc (.sl .u8)]
  outs := [.sc .bool]
  pre := fun a => match a with
    | [.sc (.sl .u8 code)] => (((code).length : Nat) : Int) ≤ 9223372036854775807
    | _ => False
  post := fun a r => match a, r with
    | [.sc (.sl .u8 code)], [.sc (.bool r)] => r = true
    | _, _ => False
  kept := false
theorem m_l_FnScriptTokens : Meets Tryz.prog 11 S_l_FnScriptTokens :=
  meets tok mixed Tryz.func11 (by kernel_rfl) (l := [(12, S_s_DrawExecute), (13, S_i_Execute), (14, S_s_Execute)]) ⟨m_s_DrawExecute, m_i_Execute, m_s_Execute, trivial⟩ (ann := []) v_l_FnScriptTokens (by kernel_rfl)
theorem a_l_FnScriptTokens : LawOf Tryz.prog Tryz.f11.params.toList S_l_FnScriptTokens where
  args := by kernel_rfl
  outs := rfl
  pre := AKs.all_iff.1 (show AKs.all S_l_FnScriptTokens.args (fun ds => bnds ds → S_l_FnScriptTokens.pre ds) from fun x0 h => h.1)
  post := AKs.all_iff.1 (show AKs.all S_l_FnScriptTokens.args (fun ds => ∀ b, S_l_FnScriptTokens.post ds [.sc (.bool b)] → b = true) from fun x0 _ h => h)
theorem own_FnScriptTokens : ownKnob Tryz.prog.godebug = none := by kernel_rfl
theorem tab_FnScriptTokens : Rows.fnScriptTokensRow.laid.filter (fun x => x.1 == "internal/strconv.uint64pow10") = [("internal/strconv.uint64pow10", Lib.tabData .u64 Lib.pow10Tab)] := by kernel_rfl
theorem gl_FnScriptTokens (W : World) (h : laidMetH Tryz.prog Rows.fnScriptTokensRow.laid W) : Gl Tryz.prog W (Old W) :=
  gl_of_laid (P := Tryz.prog) (g := 1) (t := 98) (e := 80) (n := 20) (fun x => x.1 == "internal/strconv.uint64pow10") tab_FnScriptTokens rfl (by kernel_rfl) (by kernel_rfl) Tryz.underlying98 Tryz.underlying80 (by kernel_rfl) (by kernel_rfl) W h
set_option maxRecDepth 100000 in
theorem lifted_l_FnScriptTokens (os : Os) (started : os.Started) (H : Type) (enc : TypeId × Value → H) :
    ReturnsInHanded {} Tryz.checked os 11 .any (fun w args => (Rows.fnScriptTokensSpec.pre enc Tryz.prog Tryz.f11 Rows.fnScriptTokensRow.domain false w args ∧ laidMetH Tryz.prog Rows.fnScriptTokensRow.laid w) ∧ sizedMet enc Tryz.prog Tryz.f11 (OpenSpec.ofChange Rows.fnScriptTokensSpec) false w args) (Rows.fnScriptTokensSpec.post enc Tryz.prog Tryz.f11 false true false false) :=
  law_lifted_laid (C := Tryz.checked) (F := S_l_FnScriptTokens) own_FnScriptTokens started (by kernel_rfl) Tryz.func11
    (ChangeSpec.witness_shaped (enc := enc) (C := Tryz.checked) (os := os) (X := fun w _ => laidMetH Tryz.prog Rows.fnScriptTokensRow.laid w) false (World.laidAll Tryz.prog os Rows.fnScriptTokensRow.laid) #[.slice none 0 0] 8 (World.laidAll_os _ _ _)
      (World.shaped_of_ZipB (by kernel_rfl) (by kernel_rfl)) (by kernel_rfl) (by kernel_rfl) (by kernel_rfl)
      (by rw [MakeChecks.laidMetH_plain _ _ _ (by kernel_rfl)]; exact laidMet_laidAll _ (by kernel_rfl) (by kernel_rfl)))
    m_l_FnScriptTokens a_l_FnScriptTokens (by kernel_rfl) (of_decide_eq_true (by kernel_rfl)) rfl (fun ds h => by match ds, h with | [d0], _ => rfl) (by kernel_rfl) Tryz.underlying4 gl_FnScriptTokens
theorem facts_FnScriptTokens : ∀ P : Program, P = Tryz.prog → P.initOrder.toList = ioNums.map Char.ofNat → joinedFacts P 11 Tryz.f11 Rows.fnScriptTokensSpec Rows.fnScriptTokensRow = true := by
  intro P hP h
  have h1 := io1 P hP h
  have h2 := io2 P hP h
  have h3 := io3 P hP h
  unfold joinedFacts
  rw [h1, h2, h3]
  subst hP
  show (_ : Bool) = true
  kernel_rfl
theorem proved_FnScriptTokens : Rows.FnScriptTokensSaid :=
  OpenClaim.holds_of_wide 11 Tryz.f11 rfl rfl rfl rfl rfl rfl rfl ⟨rfl, rfl, rfl, rfl, rfl⟩ rfl rfl rfl rfl rfl (by kernel_rfl) Tryz.func11 (facts_FnScriptTokens _ rfl ioL)
    (of_decide_eq_true (by kernel_rfl)) (by unfold Func.isWrapper; first | (rw [if_pos (by decide +kernel)]; kernel_rfl) | (rw [if_neg (by decide +kernel)]; exact ⟨rfl, rfl⟩))
    (fun os started H enc _ => lifted_l_FnScriptTokens os started H enc)
theorem plain_FnScriptTokens (g : FuncId) (fn : Func) (hf : Tryz.pinned.checked.prog.funcNamed Rows.fnScriptTokensRow.func = some g) (hfn : Tryz.pinned.checked.prog.funcs[g]? = some fn) :
    false = Tryz.pinned.checked.prog.looks [] ∧ ∀ (j : Nat) t, fn.params[j]? = some t → Tryz.pinned.checked.prog.wantsStandIn t = false := by
  obtain rfl : g = 11 := Option.some.inj ((show Tryz.prog.funcNamed Rows.fnScriptTokensRow.func = some 11 by kernel_rfl).symm.trans hf) |>.symm
  obtain rfl : fn = Tryz.f11 := (Option.some.inj (Tryz.func11.symm.trans hfn)).symm
  refine ⟨by kernel_rfl, fun j t ht => ?_⟩
  rw [Tryz.params11] at ht
  obtain rfl : t = 22 := by simpa using Array.mem_of_getElem? ht
  exact (show Tryz.prog.wantsStandIn 22 = false by kernel_rfl)
theorem card_FnScriptTokens : Rows.FnScriptTokensCardSaid :=
  Claim7.holds_tied_plain_at .later [] _ _ _ _ proved_FnScriptTokens (fun _ h => by cases h) (by kernel_rfl) (fun _ h => by cases h) fnScriptTokens_row_tie rfl ⟨rfl, rfl⟩ (by kernel_rfl) rfl plain_FnScriptTokens (by kernel_rfl)
end Go.Proofs.YtfnmhnbadepooaaGreatDoor
