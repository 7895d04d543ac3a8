/-
  FnScriptPack: for every input the law returns true, and each argument reads afterwards as it read before. No conditions.
-/
import Derived.Test.YtfnmhnbadepooaaGreatDoorCards
import Derived.Test.YtfnmhnbadepooaaGreatDoorTie
import Derived.Test.YtfnmhnbadepooaaGreatDoorExt
import Derived.SevenTiedAt
import Derived.Test.YtfnmhnbadepooaaGreatDoorRows
import Derived.Test.YtfnmhnbadepooaaGreatDoorT
import Derived.Test.YtfnmhnbadepooaaGreatDoorSa
import Derived.Test.YtfnmhnbadepooaaGreatDoorSb
import Derived.Test.YtfnmhnbadepooaaGreatDoorSg
import Derived.Test.YtfnmhnbadepooaaGreatDoorSj
import Derived.Test.YtfnmhnbadepooaaGreatDoorSk
import Derived.Test.YtfnmhnbadepooaaGreatDoorSl
import Derived.Test.YtfnmhnbadepooaaGreatDoorSm
import Derived.Test.YtfnmhnbadepooaaGreatDoorSn
import Derived.Test.YtfnmhnbadepooaaGreatDoorSo
import Derived.Test.YtfnmhnbadepooaaGreatDoorSp
import Derived.Test.YtfnmhnbadepooaaGreatDoorSq
import Derived.Test.YtfnmhnbadepooaaGreatDoorSu
import Derived.Test.YtfnmhnbadepooaaGreatDoorSv
import Derived.Test.YtfnmhnbadepooaaGreatDoorSw
set_option linter.unusedVariables false
set_option linter.unusedSimpArgs false
open Go Go.Ax Go.Mx Go.ChangeShapes Go.WideShapes Go.RowKit Go.ChangeAt
namespace Go.Proofs.YtfnmhnbadepooaaGreatDoor
def V_l_FnScriptPack : Prop :=
  ∀ (l0 : List UInt8), (l0.length : Int) ≤ (9223372036854775807 : Int) → (1048576 < (l0.length : Int) → true = true) ∧ (¬1048576 < (l0.length : Int) → (l0.length : Int) ≤ 1099511627776 ∧ ∀ (l1 : List UInt8), (l1.length : Int) ≤ 4000 →
 (l1.length : Int) ≤ 2000000 ∧ ∀ (l2 : List UInt8), l2 = execD l1 ∧ (l2.length : Int) ≤ 1000000 → (l1.length : Int) ≤ 2000000 ∧ ∀ (l3 : List UInt8), l3 = execD l1 ∧ (l3.length : Int) ≤ 1000000 → (l2 ≠ l3 → (l2 = l3 → true = true) ∧ (¬l2 = l3
 → false = true)) ∧ (¬l2 ≠ l3 → (↑(List.length ([112, 97, 99, 107, 32, 51, 51, 51, 51, 51, 51, 51, 10, 115, 105, 122, 101, 115, 32, 51, 51, 51, 51, 51, 51, 51, 10] : List UInt8)) : Int) ≤ 2000000 ∧ ∀ (l4 : List UInt8), l4 = execD ([112, 97,
 99, 107, 32, 51, 51, 51, 51, 51, 51, 51, 10, 115, 105, 122, 101, 115, 32, 51, 51, 51, 51, 51, 51, 51, 10] : List UInt8) ∧ (l4.length : Int) ≤ 1000000 → (l4 = ([98, 108, 111, 99, 107, 32, 49, 32, 49, 32, 51, 32, 55, 10, 115, 105, 122, 101,
 115, 32, 57, 32, 52, 32, 55, 32, 52, 10, 108, 105, 110, 101, 115, 32, 50, 10] : List UInt8) → true = true) ∧ (¬l4 = ([98, 108, 111, 99, 107, 32, 49, 32, 49, 32, 51, 32, 55, 10, 115, 105, 122, 101, 115, 32, 57, 32, 52, 32, 55, 32, 52, 10,
 108, 105, 110, 101, 115, 32, 50, 10] : List UInt8) → false = true)))
theorem v_l_FnScriptPack : V_l_FnScriptPack := by
  unfold V_l_FnScriptPack
  intro code hz
  refine ⟨fun _ => rfl, fun hc => ⟨by omega, ?_⟩⟩
  intro s hs
  refine ⟨by omega, ?_⟩
  rintro a ⟨rfl, ha⟩
  refine ⟨by omega, ?_⟩
  rintro b ⟨rfl, hb⟩
  refine ⟨fun q => absurd rfl q, fun _ => ?_⟩

  refine ⟨by simp, ?_⟩
  rintro c ⟨rfl, _⟩
  have he : execD [112, 97, 99, 107, 32, 51, 51, 51, 51, 51, 51, 51, 10, 115, 105, 122, 101, 115, 32, 51, 51, 51, 51, 51, 51, 51, 10] = [98, 108, 111, 99, 107, 32, 49, 32, 49, 32, 51, 32, 55, 10, 115, 105, 122, 101, 115, 32, 57, 32, 52, 32, 55, 32, 52, 10, 108, 105, 110, 101, 115, 32, 50, 10] := by decide +kernel
  exact ⟨fun _ => rfl, fun q => absurd he q⟩
def S_l_FnScriptPack : FSpec where
  args := [.sc (.sl .u8)]
  outs := [.sc .bool]
  pre := fun a => match a with
    | [.sc (.sl .u8 code)] => (((code).length : Nat) : Int) ≤ 9223372036854775807
    | _ => False
  post := fun a r => match a, r with
    | [.sc (.sl .u8 code)], [.sc (.bool r)] => r = true
    | _, _ => False
  kept := false
theorem m_l_FnScriptPack : Meets Tryz.prog 9 S_l_FnScriptPack :=
  meets tok mixed Tryz.func9 (by kernel_rfl) (l := [(12, S_s_DrawExecute), (13, S_i_Execute), (14, S_s_Execute)]) ⟨m_s_DrawExecute, m_i_Execute, m_s_Execute, trivial⟩ (ann := []) v_l_FnScriptPack (by kernel_rfl)
theorem a_l_FnScriptPack : LawOf Tryz.prog Tryz.f9.params.toList S_l_FnScriptPack where
  args := by kernel_rfl
  outs := rfl
  pre := AKs.all_iff.1 (show AKs.all S_l_FnScriptPack.args (fun ds => bnds ds → S_l_FnScriptPack.pre ds) from fun x0 h => h.1)
  post := AKs.all_iff.1 (show AKs.all S_l_FnScriptPack.args (fun ds => ∀ b, S_l_FnScriptPack.post ds [.sc (.bool b)] → b = true) from fun x0 _ h => h)
theorem own_FnScriptPack : ownKnob Tryz.prog.godebug = none := by kernel_rfl
theorem tab_FnScriptPack : Rows.fnScriptPackRow.laid.filter (fun x => x.1 == "internal/strconv.uint64pow10") = [("internal/strconv.uint64pow10", Lib.tabData .u64 Lib.pow10Tab)] := by kernel_rfl
theorem gl_FnScriptPack (W : World) (h : laidMetH Tryz.prog Rows.fnScriptPackRow.laid W) : Gl Tryz.prog W (Old W) :=
  gl_of_laid (P := Tryz.prog) (g := 1) (t := 98) (e := 80) (n := 20) (fun x => x.1 == "internal/strconv.uint64pow10") tab_FnScriptPack rfl (by kernel_rfl) (by kernel_rfl) Tryz.underlying98 Tryz.underlying80 (by kernel_rfl) (by kernel_rfl) W h
set_option maxRecDepth 100000 in
theorem lifted_l_FnScriptPack (os : Os) (started : os.Started) (H : Type) (enc : TypeId × Value → H) :
    ReturnsInHanded {} Tryz.checked os 9 .any (fun w args => (Rows.fnScriptPackSpec.pre enc Tryz.prog Tryz.f9 Rows.fnScriptPackRow.domain false w args ∧ laidMetH Tryz.prog Rows.fnScriptPackRow.laid w) ∧ sizedMet enc Tryz.prog Tryz.f9 (OpenSpec.ofChange Rows.fnScriptPackSpec) false w args) (Rows.fnScriptPackSpec.post enc Tryz.prog Tryz.f9 false true false false) :=
  law_lifted_laid (C := Tryz.checked) (F := S_l_FnScriptPack) own_FnScriptPack started (by kernel_rfl) Tryz.func9
    (ChangeSpec.witness_shaped (enc := enc) (C := Tryz.checked) (os := os) (X := fun w _ => laidMetH Tryz.prog Rows.fnScriptPackRow.laid w) false (World.laidAll Tryz.prog os Rows.fnScriptPackRow.laid) #[.slice none 0 0] 8 (World.laidAll_os _ _ _)
      (World.shaped_of_ZipB (by kernel_rfl) (by kernel_rfl)) (by kernel_rfl) (by kernel_rfl) (by kernel_rfl)
      (by rw [MakeChecks.laidMetH_plain _ _ _ (by kernel_rfl)]; exact laidMet_laidAll _ (by kernel_rfl) (by kernel_rfl)))
    m_l_FnScriptPack a_l_FnScriptPack (by kernel_rfl) (of_decide_eq_true (by kernel_rfl)) rfl (fun ds h => by match ds, h with | [d0], _ => rfl) (by kernel_rfl) Tryz.underlying4 gl_FnScriptPack
theorem facts_FnScriptPack : ∀ P : Program, P = Tryz.prog → P.initOrder.toList = ioNums.map Char.ofNat → joinedFacts P 9 Tryz.f9 Rows.fnScriptPackSpec Rows.fnScriptPackRow = true := by
  intro P hP h
  have h1 := io1 P hP h
  have h2 := io2 P hP h
  have h3 := io3 P hP h
  unfold joinedFacts
  rw [h1, h2, h3]
  subst hP
  show (_ : Bool) = true
  kernel_rfl
theorem proved_FnScriptPack : Rows.FnScriptPackSaid :=
  OpenClaim.holds_of_wide 9 Tryz.f9 rfl rfl rfl rfl rfl rfl rfl ⟨rfl, rfl, rfl, rfl, rfl⟩ rfl rfl rfl rfl rfl (by kernel_rfl) Tryz.func9 (facts_FnScriptPack _ rfl ioL)
    (of_decide_eq_true (by kernel_rfl)) (by unfold Func.isWrapper; first | (rw [if_pos (by decide +kernel)]; kernel_rfl) | (rw [if_neg (by decide +kernel)]; exact ⟨rfl, rfl⟩))
    (fun os started H enc _ => lifted_l_FnScriptPack os started H enc)
theorem plain_FnScriptPack (g : FuncId) (fn : Func) (hf : Tryz.pinned.checked.prog.funcNamed Rows.fnScriptPackRow.func = some g) (hfn : Tryz.pinned.checked.prog.funcs[g]? = some fn) :
    false = Tryz.pinned.checked.prog.looks [] ∧ ∀ (j : Nat) t, fn.params[j]? = some t → Tryz.pinned.checked.prog.wantsStandIn t = false := by
  obtain rfl : g = 9 := Option.some.inj ((show Tryz.prog.funcNamed Rows.fnScriptPackRow.func = some 9 by kernel_rfl).symm.trans hf) |>.symm
  obtain rfl : fn = Tryz.f9 := (Option.some.inj (Tryz.func9.symm.trans hfn)).symm
  refine ⟨by kernel_rfl, fun j t ht => ?_⟩
  rw [Tryz.params9] at ht
  obtain rfl : t = 22 := by simpa using Array.mem_of_getElem? ht
  exact (show Tryz.prog.wantsStandIn 22 = false by kernel_rfl)
theorem card_FnScriptPack : Rows.FnScriptPackCardSaid :=
  Claim7.holds_tied_plain_at .later [] _ _ _ _ proved_FnScriptPack (fun _ h => by cases h) (by kernel_rfl) (fun _ h => by cases h) fnScriptPack_row_tie rfl ⟨rfl, rfl⟩ (by kernel_rfl) rfl plain_FnScriptPack (by kernel_rfl)
end Go.Proofs.YtfnmhnbadepooaaGreatDoor
