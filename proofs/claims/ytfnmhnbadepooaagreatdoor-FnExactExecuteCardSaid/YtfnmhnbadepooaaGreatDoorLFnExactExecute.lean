/-
  FnExactExecute: for every input the law returns true, and each argument reads afterwards as it read before. No conditions.
-/
import Derived.Test.YtfnmhnbadepooaaGreatDoorCards
import Derived.Test.YtfnmhnbadepooaaGreatDoorTie
import Derived.Test.YtfnmhnbadepooaaGreatDoorExt
import Derived.SevenTiedAt
import Derived.Test.YtfnmhnbadepooaaGreatDoorRows
import Derived.Test.YtfnmhnbadepooaaGreatDoorT
import Derived.Test.YtfnmhnbadepooaaGreatDoorSa
import Derived.Test.YtfnmhnbadepooaaGreatDoorSg
import Derived.Test.YtfnmhnbadepooaaGreatDoorSj
import Derived.Test.YtfnmhnbadepooaaGreatDoorSk
import Derived.Test.YtfnmhnbadepooaaGreatDoorSl
import Derived.Test.YtfnmhnbadepooaaGreatDoorSm
import Derived.Test.YtfnmhnbadepooaaGreatDoorSn
import Derived.Test.YtfnmhnbadepooaaGreatDoorSo
import Derived.Test.YtfnmhnbadepooaaGreatDoorSp
import Derived.Test.YtfnmhnbadepooaaGreatDoorSq
import Derived.Test.YtfnmhnbadepooaaGreatDoorSu
import Derived.Test.YtfnmhnbadepooaaGreatDoorSv
import Derived.Test.YtfnmhnbadepooaaGreatDoorSw
set_option linter.unusedVariables false
set_option linter.unusedSimpArgs false
open Go Go.Ax Go.Mx Go.ChangeShapes Go.WideShapes Go.RowKit Go.ChangeAt
namespace Go.Proofs.YtfnmhnbadepooaaGreatDoor
def V_l_FnExactExecute : Prop :=
  ∀ (l0 : List UInt8), (l0.length : Int) ≤ (9223372036854775807 : Int) → (1048576 < (l0.length : Int) → true = true) ∧ (¬1048576 < (l0.length : Int) → (l0.length : Int) ≤ 2000000 ∧ ∀ (l1 : List UInt8), l1 = execD l0 ∧ (l1.length : Int) ≤
 1000000 → (l0.length : Int) ≤ 2000000 ∧ ∀ (l2 : List UInt8), l2 = execD l0 ∧ (l2.length : Int) ≤ 1000000 → (l2 ≠ l1 → false = true) ∧ (¬l2 ≠ l1 → true = true))
theorem v_l_FnExactExecute : V_l_FnExactExecute := by
  unfold V_l_FnExactExecute
  intro s hz
  refine ⟨fun _ => rfl, fun hc => ⟨by omega, ?_⟩⟩
  rintro a ⟨rfl, ha⟩
  refine ⟨by omega, ?_⟩
  rintro b ⟨rfl, hb⟩
  exact ⟨fun q => absurd rfl q, fun _ => rfl⟩
def S_l_FnExactExecute : FSpec where
  args := [.sc .str]
  outs := [.sc .bool]
  pre := fun a => match a with
    | [.sc (.str aText)] => (((aText).length : Nat) : Int) ≤ 9223372036854775807
    | _ => False
  post := fun a r => match a, r with
    | [.sc (.str aText)], [.sc (.bool r)] => r = true
    | _, _ => False
  kept := false
theorem m_l_FnExactExecute : Meets Tryz.prog 6 S_l_FnExactExecute :=
  meets tok mixed Tryz.func6 (by kernel_rfl) (l := [(13, S_i_Execute), (14, S_s_Execute)]) ⟨m_i_Execute, m_s_Execute, trivial⟩ (ann := []) v_l_FnExactExecute (by kernel_rfl)
theorem a_l_FnExactExecute : LawOf Tryz.prog Tryz.f6.params.toList S_l_FnExactExecute where
  args := by kernel_rfl
  outs := rfl
  pre := AKs.all_iff.1 (show AKs.all S_l_FnExactExecute.args (fun ds => bnds ds → S_l_FnExactExecute.pre ds) from fun x0 h => h.1)
  post := AKs.all_iff.1 (show AKs.all S_l_FnExactExecute.args (fun ds => ∀ b, S_l_FnExactExecute.post ds [.sc (.bool b)] → b = true) from fun x0 _ h => h)
theorem own_FnExactExecute : ownKnob Tryz.prog.godebug = none := by kernel_rfl
theorem tab_FnExactExecute : Rows.fnExactExecuteRow.laid.filter (fun x => x.1 == "internal/strconv.uint64pow10") = [("internal/strconv.uint64pow10", Lib.tabData .u64 Lib.pow10Tab)] := by kernel_rfl
theorem gl_FnExactExecute (W : World) (h : laidMetH Tryz.prog Rows.fnExactExecuteRow.laid W) : Gl Tryz.prog W (Old W) :=
  gl_of_laid (P := Tryz.prog) (g := 1) (t := 98) (e := 80) (n := 20) (fun x => x.1 == "internal/strconv.uint64pow10") tab_FnExactExecute rfl (by kernel_rfl) (by kernel_rfl) Tryz.underlying98 Tryz.underlying80 (by kernel_rfl) (by kernel_rfl) W h
set_option maxRecDepth 100000 in
theorem lifted_l_FnExactExecute (os : Os) (started : os.Started) (H : Type) (enc : TypeId × Value → H) :
    ReturnsInHanded {} Tryz.checked os 6 .any (fun w args => (Rows.fnExactExecuteSpec.pre enc Tryz.prog Tryz.f6 Rows.fnExactExecuteRow.domain false w args ∧ laidMetH Tryz.prog Rows.fnExactExecuteRow.laid w) ∧ sizedMet enc Tryz.prog Tryz.f6 (OpenSpec.ofChange Rows.fnExactExecuteSpec) false w args) (Rows.fnExactExecuteSpec.post enc Tryz.prog Tryz.f6 false true false false) :=
  law_lifted_laid (C := Tryz.checked) (F := S_l_FnExactExecute) own_FnExactExecute started (by kernel_rfl) Tryz.func6
    (ChangeSpec.witness_shaped (enc := enc) (C := Tryz.checked) (os := os) (X := fun w _ => laidMetH Tryz.prog Rows.fnExactExecuteRow.laid w) false (World.laidAll Tryz.prog os Rows.fnExactExecuteRow.laid) #[.string ⟨#[]⟩] 8 (World.laidAll_os _ _ _)
      (World.shaped_of_ZipB (by kernel_rfl) (by kernel_rfl)) (by kernel_rfl) (by kernel_rfl) (by kernel_rfl)
      (by rw [MakeChecks.laidMetH_plain _ _ _ (by kernel_rfl)]; exact laidMet_laidAll _ (by kernel_rfl) (by kernel_rfl)))
    m_l_FnExactExecute a_l_FnExactExecute (by kernel_rfl) (of_decide_eq_true (by kernel_rfl)) rfl (fun ds h => by match ds, h with | [d0], _ => rfl) (by kernel_rfl) Tryz.underlying4 gl_FnExactExecute
theorem facts_FnExactExecute : ∀ P : Program, P = Tryz.prog → P.initOrder.toList = ioNums.map Char.ofNat → joinedFacts P 6 Tryz.f6 Rows.fnExactExecuteSpec Rows.fnExactExecuteRow = true := by
  intro P hP h
  have h1 := io1 P hP h
  have h2 := io2 P hP h
  have h3 := io3 P hP h
  unfold joinedFacts
  rw [h1, h2, h3]
  subst hP
  show (_ : Bool) = true
  kernel_rfl
theorem proved_FnExactExecute : Rows.FnExactExecuteSaid :=
  OpenClaim.holds_of_wide 6 Tryz.f6 rfl rfl rfl rfl rfl rfl rfl ⟨rfl, rfl, rfl, rfl, rfl⟩ rfl rfl rfl rfl rfl (by kernel_rfl) Tryz.func6 (facts_FnExactExecute _ rfl ioL)
    (of_decide_eq_true (by kernel_rfl)) (by unfold Func.isWrapper; first | (rw [if_pos (by decide +kernel)]; kernel_rfl) | (rw [if_neg (by decide +kernel)]; exact ⟨rfl, rfl⟩))
    (fun os started H enc _ => lifted_l_FnExactExecute os started H enc)
theorem plain_FnExactExecute (g : FuncId) (fn : Func) (hf : Tryz.pinned.checked.prog.funcNamed Rows.fnExactExecuteRow.func = some g) (hfn : Tryz.pinned.checked.prog.funcs[g]? = some fn) :
    false = Tryz.pinned.checked.prog.looks [] ∧ ∀ (j : Nat) t, fn.params[j]? = some t → Tryz.pinned.checked.prog.wantsStandIn t = false := by
  obtain rfl : g = 6 := Option.some.inj ((show Tryz.prog.funcNamed Rows.fnExactExecuteRow.func = some 6 by kernel_rfl).symm.trans hf) |>.symm
  obtain rfl : fn = Tryz.f6 := (Option.some.inj (Tryz.func6.symm.trans hfn)).symm
  refine ⟨by kernel_rfl, fun j t ht => ?_⟩
  rw [Tryz.params6] at ht
  obtain rfl : t = 9 := by simpa using Array.mem_of_getElem? ht
  exact (show Tryz.prog.wantsStandIn 9 = false by kernel_rfl)
theorem card_FnExactExecute : Rows.FnExactExecuteCardSaid :=
  Claim7.holds_tied_plain_at .later [] _ _ _ _ proved_FnExactExecute (fun _ h => by cases h) (by kernel_rfl) (fun _ h => by cases h) fnExactExecute_row_tie rfl ⟨rfl, rfl⟩ (by kernel_rfl) rfl plain_FnExactExecute (by kernel_rfl)
end Go.Proofs.YtfnmhnbadepooaaGreatDoor
