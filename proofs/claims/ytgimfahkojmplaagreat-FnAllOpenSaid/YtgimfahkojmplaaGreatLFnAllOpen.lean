/-
  FnAllOpen: for every input the law returns true, and each argument reads afterwards as it read before. No conditions.
-/
import Derived.Test.YtgimfahkojmplaaGreatRows
import Derived.Test.YtgimfahkojmplaaGreatT
import Derived.Test.YtgimfahkojmplaaGreatSa
import Derived.Test.YtgimfahkojmplaaGreatSb
import Derived.Test.YtgimfahkojmplaaGreatSf
import Derived.Test.YtgimfahkojmplaaGreatSg
import Derived.Test.YtgimfahkojmplaaGreatSj
import Derived.Test.YtgimfahkojmplaaGreatSk
import Derived.Test.YtgimfahkojmplaaGreatSl
import Derived.Test.YtgimfahkojmplaaGreatSm
import Derived.Test.YtgimfahkojmplaaGreatSn
import Derived.Test.YtgimfahkojmplaaGreatSo
import Derived.Test.YtgimfahkojmplaaGreatSp
import Derived.Test.YtgimfahkojmplaaGreatSr
import Derived.Test.YtgimfahkojmplaaGreatSs
import Derived.Test.YtgimfahkojmplaaGreatSt
set_option linter.unusedVariables false
set_option linter.unusedSimpArgs false
open Go Go.Ax Go.Mx Go.ChangeShapes Go.WideShapes Go.RowKit Go.ChangeAt
namespace Go.Proofs.YtgimfahkojmplaaGreat
def V_l_FnAllOpen : Prop :=
  ∀ (l0 : List UInt8), (l0.length : Int) ≤ (9223372036854775807 : Int) → (1048576 < (l0.length : Int) → true = true) ∧ (¬1048576 < (l0.length : Int) → (l0.length : Int) ≤ 1099511627776 ∧ ∀ (l1 : List Int), (l1.length : Int) ≤ 6000 → (l1.length
 : Int) ≤ 10000000000 ∧ ∀ (l2 : List Int), (true = Option.isSome (allD l1) ∧ l2 = Option.getD (allD l1) [] ∧ (l2.length : Int) ≤ 120 → (l1.length : Int) ≤ 10000000000 ∧ ∀ (l3 : List Int), (true = Option.isSome (allD l1) ∧ l3 = Option.getD
 (allD l1) [] ∧ (l3.length : Int) ≤ 120 → ((l2.length : Int) ≤ 1099511627776 ∧ (l3.length : Int) ≤ 1099511627776) ∧ (true = decide (l2 = l3) → ((l1.length : Int) = 0 → ((l2.length : Int) ≤ 1099511627776 ∧ (l3.length : Int) ≤ 1099511627776) ∧
 (true = decide (l2 = l3) → true = true) ∧ (false = decide (l2 = l3) → false = true)) ∧ (¬(l1.length : Int) = 0 → (l1.length : Int) ≤ 1099511627776 ∧ ∀ (l4 : List Int) (n5 : Int), (true = Option.isSome (openD l1) ∧ (l4, n5) = Option.getD
 (openD l1) ([], 0) → 0 ≤ n5 ∧ n5 ≤ (l1.length : Int) ∧ (↑(List.length (List.drop (n5.toNat) l1)) : Int) ≤ 10000000000 ∧ ∀ (l6 : List Int), (true = Option.isSome (allD (List.drop (n5.toNat) l1)) ∧ l6 = Option.getD (allD (List.drop (n5.toNat)
 l1)) [] ∧ (l6.length : Int) ≤ 120 → (↑(0 + l4.length) : Int) ≤ 1099511627776 ∧ (↑(l4.length + l6.length) : Int) ≤ 1099511627776 ∧ ((↑(List.length (l4 ++ l6)) : Int) ≤ 1099511627776 ∧ (l2.length : Int) ≤ 1099511627776) ∧ (true = decide (l4 ++
 l6 = l2) → true = true) ∧ (false = decide (l4 ++ l6 = l2) → false = true)) ∧ (false = Option.isSome (allD (List.drop (n5.toNat) l1)) ∧ l6 = Option.getD (allD (List.drop (n5.toNat) l1)) [] ∧ (l6.length : Int) ≤ 120 → false = true)) ∧ (false =
 Option.isSome (openD l1) ∧ (l4, n5) = Option.getD (openD l1) ([], 0) → 0 ≤ n5 ∧ n5 ≤ (l1.length : Int) ∧ (↑(List.length (List.drop (n5.toNat) l1)) : Int) ≤ 10000000000 ∧ ∀ (l7 : List Int), (true = Option.isSome (allD (List.drop (n5.toNat)
 l1)) ∧ l7 = Option.getD (allD (List.drop (n5.toNat) l1)) [] ∧ (l7.length : Int) ≤ 120 → false = true) ∧ (false = Option.isSome (allD (List.drop (n5.toNat) l1)) ∧ l7 = Option.getD (allD (List.drop (n5.toNat) l1)) [] ∧ (l7.length : Int) ≤ 120
 → false = true)))) ∧ (false = decide (l2 = l3) → ((l2.length : Int) ≤ 1099511627776 ∧ (l3.length : Int) ≤ 1099511627776) ∧ (true = decide (l2 = l3) → true = true) ∧ (false = decide (l2 = l3) → false = true))) ∧ (false = Option.isSome (allD
 l1) ∧ l3 = Option.getD (allD l1) [] ∧ (l3.length : Int) ≤ 120 → false = true)) ∧ (false = Option.isSome (allD l1) ∧ l2 = Option.getD (allD l1) [] ∧ (l2.length : Int) ≤ 120 → (l1.length : Int) ≤ 10000000000 ∧ ∀ (l8 : List Int), (true =
 Option.isSome (allD l1) ∧ l8 = Option.getD (allD l1) [] ∧ (l8.length : Int) ≤ 120 → false = true) ∧ (false = Option.isSome (allD l1) ∧ l8 = Option.getD (allD l1) [] ∧ (l8.length : Int) ≤ 120 → ((l2.length : Int) ≤ 1099511627776 ∧ (l8.length
 : Int) ≤ 1099511627776) ∧ (true = decide (l2 = l8) → ((l2.length : Int) ≤ 1099511627776 ∧ (l8.length : Int) ≤ 1099511627776) ∧ (true = decide (l2 = l8) → true = true) ∧ (false = decide (l2 = l8) → false = true)) ∧ (false = decide (l2 = l8) →
 ((l2.length : Int) ≤ 1099511627776 ∧ (l8.length : Int) ≤ 1099511627776) ∧ (true = decide (l2 = l8) → true = true) ∧ (false = decide (l2 = l8) → false = true)))))
theorem v_l_FnAllOpen : V_l_FnAllOpen := by
  unfold V_l_FnAllOpen
  intro code hz
  refine ⟨fun _ => rfl, fun hc => ⟨by omega, fun b hb => ⟨by omega, ?_⟩⟩⟩
  cases h : allD b with
  | none =>
    simp only [Option.isSome_none, Option.getD_none, Option.isSome_some, Option.getD_some, reduceCtorEq, false_and, true_and, false_implies, implies_true, Bool.false_eq_true, and_true, and_false, and_imp]
    repeat' (first | apply And.intro | (rintro _ _ rfl rfl) | (rintro _ rfl) | intro _)
    all_goals (first | omega | with_reducible rfl | trivial | contradiction | (simp only [marks_len, marks3_len]; omega) | (rename_i h; simp [marks_len, marks3_len] at h; done) | (rename_i h; simp [marks_len, marks3_len] at h; omega) | (rename_i h _; simp at h; done) | (rename_i h _ _; simp at h; done) | grind)
  | some T =>
  intro x
  refine ⟨?_, fun q => (by cases q.1)⟩
  rintro ⟨_, rfl, hT⟩
  refine ⟨by omega, fun y => ⟨?_, fun q => (by cases q.1)⟩⟩
  rintro ⟨_, rfl, _⟩
  simp only [Option.getD_some] at hT ⊢
  refine ⟨by omega, fun _ => ⟨fun _ => ⟨by omega, fun _ => by trivial, fun q => by simp at q⟩, fun hne => ⟨by omega, ?_⟩⟩, fun q => by simp at q⟩
  obtain ⟨l, n, T', h1, h2, h3, h4, h5, h6⟩ := allD_open h (by omega)
  rw [h1]
  intro l4 n5
  refine ⟨?_, fun q => (by cases q.1)⟩
  rintro ⟨_, e⟩
  simp only [Option.getD_some, Prod.mk.injEq] at e
  obtain ⟨rfl, rfl⟩ := e
  refine ⟨by omega, by omega, by rw [List.length_drop]; omega, ?_⟩
  rw [h2]
  intro z
  refine ⟨?_, fun q => (by cases q.1)⟩
  rintro ⟨_, rfl, hz'⟩
  exact ⟨by omega, by omega, ⟨by rw [List.length_append]; omega, by omega⟩, fun _ => by trivial, fun q => by simp [h3] at q⟩
def S_l_FnAllOpen : FSpec where
  args := [.sc (.sl .u8)]
  outs := [.sc .bool]
  pre := fun a => match a with
    | [.sc (.sl .u8 code)] => (((code).length : Nat) : Int) ≤ 9223372036854775807
    | _ => False
  post := fun a r => match a, r with
    | [.sc (.sl .u8 code)], [.sc (.bool r)] => r = true
    | _, _ => False
  kept := false
theorem m_l_FnAllOpen : Meets Tryz.prog 3 S_l_FnAllOpen :=
  meets tok mixed Tryz.func3 (by kernel_rfl) (l := [(6, S_s_DrawStreamAll), (7, S_i_StreamAll), (8, S_s_StreamAll), (9, S_l_sameInts), (10, S_i_BlockOpen)]) ⟨m_s_DrawStreamAll, m_i_StreamAll, m_s_StreamAll, m_l_sameInts, m_i_BlockOpen, trivial⟩ (ann := []) v_l_FnAllOpen (by kernel_rfl)
theorem a_l_FnAllOpen : LawOf Tryz.prog Tryz.f3.params.toList S_l_FnAllOpen where
  args := by kernel_rfl
  outs := rfl
  pre := AKs.all_iff.1 (show AKs.all S_l_FnAllOpen.args (fun ds => bnds ds → S_l_FnAllOpen.pre ds) from fun x0 h => h.1)
  post := AKs.all_iff.1 (show AKs.all S_l_FnAllOpen.args (fun ds => ∀ b, S_l_FnAllOpen.post ds [.sc (.bool b)] → b = true) from fun x0 _ h => h)
set_option maxRecDepth 100000 in
theorem lifted_l_FnAllOpen (os : Os) (started : os.Started) (H : Type) (enc : TypeId × Value → H) :
    ReturnsInHanded {} Tryz.checked os 3 .any (Rows.fnAllOpenSpec.pre6 enc Tryz.prog Tryz.f3 Rows.fnAllOpenRow.domain false) (Rows.fnAllOpenSpec.post enc Tryz.prog Tryz.f3 false true false false) :=
  law_lifted (C := Tryz.checked) (F := S_l_FnAllOpen) (by kernel_rfl) started (by kernel_rfl) Tryz.func3
    (ChangeSpec.witness6 (enc := enc) (C := Tryz.checked) false ⟨#[], #[.slice none 0 0], []⟩ 8 (by kernel_rfl) (by kernel_rfl) (by kernel_rfl) (by kernel_rfl))
    m_l_FnAllOpen a_l_FnAllOpen (by kernel_rfl) (of_decide_eq_true (by kernel_rfl)) rfl (fun ds h => by match ds, h with | [d0], _ => rfl) (by kernel_rfl) Tryz.underlying4
theorem facts_FnAllOpen : ∀ P : Program, P = Tryz.prog → P.initOrder.toList = ioNums.map Char.ofNat → joinedFacts P 3 Tryz.f3 Rows.fnAllOpenSpec Rows.fnAllOpenRow = true := by
  intro P hP h
  have h1 := io1 P hP h
  have h2 := io2 P hP h
  have h3 := io3 P hP h
  unfold joinedFacts
  rw [h1, h2, h3]
  subst hP
  show (_ : Bool) = true
  kernel_rfl
theorem proved_FnAllOpen : Rows.FnAllOpenSaid :=
  OpenClaim.holds_of_wide 3 Tryz.f3 rfl rfl rfl rfl rfl rfl rfl ⟨rfl, rfl, rfl, rfl, rfl⟩ rfl rfl rfl rfl rfl (by kernel_rfl) Tryz.func3 (facts_FnAllOpen _ rfl ioL)
    (of_decide_eq_true (by kernel_rfl)) (by unfold Func.isWrapper; first | (rw [if_pos (by decide +kernel)]; kernel_rfl) | (rw [if_neg (by decide +kernel)]; exact ⟨rfl, rfl⟩))
    (fun os started H enc _ => lifted_l_FnAllOpen os started H enc)
end Go.Proofs.YtgimfahkojmplaaGreat
