/-
  FnAll: for every input the law returns true, and each argument reads afterwards as it read before. No conditions.
-/
import Derived.Test.YtgimfahkojmplaaGreatRows
import Derived.Test.YtgimfahkojmplaaGreatT
import Derived.Test.YtgimfahkojmplaaGreatSa
import Derived.Test.YtgimfahkojmplaaGreatSb
import Derived.Test.YtgimfahkojmplaaGreatSf
import Derived.Test.YtgimfahkojmplaaGreatSg
import Derived.Test.YtgimfahkojmplaaGreatSj
import Derived.Test.YtgimfahkojmplaaGreatSk
import Derived.Test.YtgimfahkojmplaaGreatSl
import Derived.Test.YtgimfahkojmplaaGreatSm
import Derived.Test.YtgimfahkojmplaaGreatSn
import Derived.Test.YtgimfahkojmplaaGreatSo
import Derived.Test.YtgimfahkojmplaaGreatSp
import Derived.Test.YtgimfahkojmplaaGreatSr
import Derived.Test.YtgimfahkojmplaaGreatSs
import Derived.Test.YtgimfahkojmplaaGreatSt
set_option linter.unusedVariables false
set_option linter.unusedSimpArgs false
open Go Go.Ax Go.Mx Go.ChangeShapes Go.WideShapes Go.RowKit Go.ChangeAt
namespace Go.Proofs.YtgimfahkojmplaaGreat
def V_l_FnAll : Prop :=
  ∀ (l0 l1 : List UInt8), (l0.length : Int) ≤ (9223372036854775807 : Int) ∧ (l1.length : Int) ≤ (9223372036854775807 : Int) → (1048576 < (l0.length : Int) → true = true) ∧ (¬1048576 < (l0.length : Int) → (1048576 < (l1.length : Int) → true =
 true) ∧ (¬1048576 < (l1.length : Int) → (l0.length : Int) ≤ 1099511627776 ∧ ∀ (l2 : List Int), (l2.length : Int) ≤ 6000 → (l2.length : Int) ≤ 10000000000 ∧ ∀ (l3 : List Int), (true = Option.isSome (allD l2) ∧ l3 = Option.getD (allD l2) [] ∧
 (l3.length : Int) ≤ 120 → (l2.length : Int) ≤ 10000000000 ∧ ∀ (l4 : List Int), (true = Option.isSome (allD l2) ∧ l4 = Option.getD (allD l2) [] ∧ (l4.length : Int) ≤ 120 → ((l3.length : Int) ≤ 1099511627776 ∧ (l4.length : Int) ≤
 1099511627776) ∧ (true = decide (l3 = l4) → 0 ≤ (l1.length : Int) ∧ (0 : Int) < 7 ∧ (l1.length : Int) % 7 = (l1.length : Int) % 7 ∧ 0 ≤ (l1.length : Int) % 7 ∧ (l1.length : Int) % (7 : Int) ≤ 1099511627776 ∧ (↑(0 + l2.length) : Int) ≤
 1099511627776 ∧ (↑(List.length (List.replicate (Int.toNat ((l1.length : Int) % 7)) (0 : Int))) : Int) ≤ 1099511627776 ∧ ∀ (l5 : List Int), l5 = packB (List.replicate (Int.toNat ((l1.length : Int) % 7)) 0) ∧ (l5.length : Int) ≤ 82 →
 (↑(l2.length + l5.length) : Int) ≤ 1099511627776 ∧ (↑(List.length (l2 ++ l5)) : Int) ≤ 10000000000 ∧ ∀ (l6 : List Int), (true = Option.isSome (allD (l2 ++ l5)) ∧ l6 = Option.getD (allD (l2 ++ l5)) [] ∧ (l6.length : Int) ≤ 120 →
 (-9223372036854775808 ≤ (l3.length : Int) + (↑(List.length (List.replicate (Int.toNat ((l1.length : Int) % 7)) (0 : Int))) : Int) ∧ (l3.length : Int) + (↑(List.length (List.replicate (Int.toNat ((l1.length : Int) % 7)) (0 : Int))) : Int) ≤
 (9223372036854775807 : Int)) ∧ (120 < (l3.length : Int) + (↑(List.length (List.replicate (Int.toNat ((l1.length : Int) % 7)) (0 : Int))) : Int) → false = true) ∧ (¬120 < (l3.length : Int) + (↑(List.length (List.replicate (Int.toNat
 ((l1.length : Int) % 7)) (0 : Int))) : Int) → (l3.length : Int) ≤ 1099511627776 ∧ (true = textOk l3 → (↑(0 + l3.length) : Int) ≤ 1099511627776 ∧ (↑(l3.length + List.length (List.replicate (Int.toNat ((l1.length : Int) % 7)) (0 : Int))) :
 Int) ≤ 1099511627776 ∧ ((l6.length : Int) ≤ 1099511627776 ∧ (↑(List.length (l3 ++ List.replicate (Int.toNat ((l1.length : Int) % 7)) 0)) : Int) ≤ 1099511627776) ∧ (true = decide (l6 = l3 ++ List.replicate (Int.toNat ((l1.length : Int) % 7))
 0) → true = true) ∧ (false = decide (l6 = l3 ++ List.replicate (Int.toNat ((l1.length : Int) % 7)) 0) → false = true)) ∧ (false = textOk l3 → false = true))) ∧ (false = Option.isSome (allD (l2 ++ l5)) ∧ l6 = Option.getD (allD (l2 ++ l5)) []
 ∧ (l6.length : Int) ≤ 120 → (-9223372036854775808 ≤ (l3.length : Int) + (↑(List.length (List.replicate (Int.toNat ((l1.length : Int) % 7)) (0 : Int))) : Int) ∧ (l3.length : Int) + (↑(List.length (List.replicate (Int.toNat ((l1.length : Int)
 % 7)) (0 : Int))) : Int) ≤ (9223372036854775807 : Int)) ∧ (120 < (l3.length : Int) + (↑(List.length (List.replicate (Int.toNat ((l1.length : Int) % 7)) (0 : Int))) : Int) → true = true) ∧ (¬120 < (l3.length : Int) + (↑(List.length
 (List.replicate (Int.toNat ((l1.length : Int) % 7)) (0 : Int))) : Int) → false = true))) ∧ (false = decide (l3 = l4) → ((l3.length : Int) ≤ 1099511627776 ∧ (l4.length : Int) ≤ 1099511627776) ∧ (true = decide (l3 = l4) → true = true) ∧ (false
 = decide (l3 = l4) → false = true))) ∧ (false = Option.isSome (allD l2) ∧ l4 = Option.getD (allD l2) [] ∧ (l4.length : Int) ≤ 120 → false = true)) ∧ (false = Option.isSome (allD l2) ∧ l3 = Option.getD (allD l2) [] ∧ (l3.length : Int) ≤ 120 →
 (l2.length : Int) ≤ 10000000000 ∧ ∀ (l7 : List Int), (true = Option.isSome (allD l2) ∧ l7 = Option.getD (allD l2) [] ∧ (l7.length : Int) ≤ 120 → false = true) ∧ (false = Option.isSome (allD l2) ∧ l7 = Option.getD (allD l2) [] ∧ (l7.length :
 Int) ≤ 120 → ((l3.length : Int) ≤ 1099511627776 ∧ (l7.length : Int) ≤ 1099511627776) ∧ (true = decide (l3 = l7) → ((l3.length : Int) ≤ 1099511627776 ∧ (l7.length : Int) ≤ 1099511627776) ∧ (true = decide (l3 = l7) → true = true) ∧ (false =
 decide (l3 = l7) → false = true)) ∧ (false = decide (l3 = l7) → ((l3.length : Int) ≤ 1099511627776 ∧ (l7.length : Int) ≤ 1099511627776) ∧ (true = decide (l3 = l7) → true = true) ∧ (false = decide (l3 = l7) → false = true))))))
theorem v_l_FnAll : V_l_FnAll := by
  unfold V_l_FnAll
  intro code more ⟨hz, hm⟩
  refine ⟨fun _ => rfl, fun hc => ⟨fun _ => rfl, fun hd => ⟨by omega, fun b hb => ⟨by omega, ?_⟩⟩⟩⟩
  cases h : allD b with
  | none =>
    simp only [Option.isSome_none, Option.getD_none, Option.isSome_some, Option.getD_some, reduceCtorEq, false_and, true_and, false_implies, implies_true, Bool.false_eq_true, and_true, and_false, and_imp]
    repeat' (first | apply And.intro | (rintro _ _ rfl rfl) | (rintro _ rfl) | intro _)
    all_goals (first | omega | with_reducible rfl | trivial | contradiction | (simp only [marks_len, marks3_len]; omega) | (rename_i h; simp [marks_len, marks3_len] at h; done) | (rename_i h; simp [marks_len, marks3_len] at h; omega) | (rename_i h _; simp at h; done) | (rename_i h _ _; simp at h; done) | grind)
  | some T =>
  intro x
  refine ⟨?_, fun q => (by cases q.1)⟩
  rintro ⟨_, rfl, hT⟩
  refine ⟨by omega, fun y => ⟨?_, fun q => (by cases q.1)⟩⟩
  rintro ⟨_, rfl, _⟩
  simp only [Option.getD_some] at hT ⊢
  have c0 := Int.emod_nonneg (more.length : Int) (b := 7) (by omega)
  have c1 := Int.emod_lt_of_pos (more.length : Int) (b := 7) (by omega)
  refine ⟨by omega, fun _ => ?_, fun q => by simp at q⟩
  have hv : ∀ n, n < 7 → LV (List.replicate n 0) = true := by decide
  have hv := hv ((more.length : Int) % 7).toNat (by omega)
  have hlen : (List.replicate ((more.length : Int) % 7).toNat (0 : Int)).length ≤ 7 := by rw [List.length_replicate]; omega
  have hlen2 : (List.replicate ((more.length : Int) % 7).toNat (0 : Int)).length = ((more.length : Int) % 7).toNat := List.length_replicate
  simp only [List.length_replicate]
  generalize List.replicate ((more.length : Int) % 7).toNat (0 : Int) = r at *
  refine ⟨by omega, by omega, by trivial, by omega, by omega, by omega, by omega, ?_⟩
  rintro p ⟨rfl, hp⟩
  rw [allD_pack h hv]
  have htok := (allD_some h).2.2
  refine ⟨by omega, by rw [List.length_append]; omega, ?_⟩
  by_cases hl : y.length + r.length ≤ 120
  · rw [if_pos hl]
    intro z
    refine ⟨?_, fun q => (by cases q.1)⟩
    rintro ⟨_, rfl, hz'⟩
    simp only [Option.getD_some] at hz' ⊢
    exact ⟨by omega, fun q => by omega, fun _ => ⟨by omega, fun _ => ⟨by omega, by omega, ⟨by omega, by omega⟩, fun _ => by trivial, fun q => by simp at q⟩, fun q => by rw [htok] at q; cases q⟩⟩
  · rw [if_neg hl]
    intro z
    refine ⟨fun q => (by cases q.1), ?_⟩
    rintro _
    exact ⟨by omega, fun _ => by trivial, fun q => by omega⟩
def S_l_FnAll : FSpec where
  args := [.sc (.sl .u8), .sc (.sl .u8)]
  outs := [.sc .bool]
  pre := fun a => match a with
    | [.sc (.sl .u8 code), .sc (.sl .u8 more)] => (((code).length : Nat) : Int) ≤ 9223372036854775807 ∧ (((more).length : Nat) : Int) ≤ 9223372036854775807
    | _ => False
  post := fun a r => match a, r with
    | [.sc (.sl .u8 code), .sc (.sl .u8 more)], [.sc (.bool r)] => r = true
    | _, _ => False
  kept := false
theorem m_l_FnAll : Meets Tryz.prog 4 S_l_FnAll :=
  meets tok mixed Tryz.func4 (by kernel_rfl) (l := [(6, S_s_DrawStreamAll), (7, S_i_StreamAll), (8, S_s_StreamAll), (9, S_l_sameInts), (11, S_i_BlockPack), (12, S_i_TextValid)]) ⟨m_s_DrawStreamAll, m_i_StreamAll, m_s_StreamAll, m_l_sameInts, m_i_BlockPack, m_i_TextValid, trivial⟩ (ann := []) v_l_FnAll (by kernel_rfl)
theorem a_l_FnAll : LawOf Tryz.prog Tryz.f4.params.toList S_l_FnAll where
  args := by kernel_rfl
  outs := rfl
  pre := AKs.all_iff.1 (show AKs.all S_l_FnAll.args (fun ds => bnds ds → S_l_FnAll.pre ds) from fun x0 x1 h => ⟨h.1, h.2.1⟩)
  post := AKs.all_iff.1 (show AKs.all S_l_FnAll.args (fun ds => ∀ b, S_l_FnAll.post ds [.sc (.bool b)] → b = true) from fun x0 x1 _ h => h)
set_option maxRecDepth 100000 in
theorem lifted_l_FnAll (os : Os) (started : os.Started) (H : Type) (enc : TypeId × Value → H) :
    ReturnsInHanded {} Tryz.checked os 4 .any (Rows.fnAllSpec.pre6 enc Tryz.prog Tryz.f4 Rows.fnAllRow.domain false) (Rows.fnAllSpec.post enc Tryz.prog Tryz.f4 false true false false) :=
  law_lifted (C := Tryz.checked) (F := S_l_FnAll) (by kernel_rfl) started (by kernel_rfl) Tryz.func4
    (ChangeSpec.witness6 (enc := enc) (C := Tryz.checked) false ⟨#[], #[.slice none 0 0, .slice none 0 0], []⟩ 8 (by kernel_rfl) (by kernel_rfl) (by kernel_rfl) (by kernel_rfl))
    m_l_FnAll a_l_FnAll (by kernel_rfl) (of_decide_eq_true (by kernel_rfl)) rfl (fun ds h => by match ds, h with | [d0, d1], _ => rfl) (by kernel_rfl) Tryz.underlying4
theorem facts_FnAll : ∀ P : Program, P = Tryz.prog → P.initOrder.toList = ioNums.map Char.ofNat → joinedFacts P 4 Tryz.f4 Rows.fnAllSpec Rows.fnAllRow = true := by
  intro P hP h
  have h1 := io1 P hP h
  have h2 := io2 P hP h
  have h3 := io3 P hP h
  unfold joinedFacts
  rw [h1, h2, h3]
  subst hP
  show (_ : Bool) = true
  kernel_rfl
theorem proved_FnAll : Rows.FnAllSaid :=
  OpenClaim.holds_of_wide 4 Tryz.f4 rfl rfl rfl rfl rfl rfl rfl ⟨rfl, rfl, rfl, rfl, rfl⟩ rfl rfl rfl rfl rfl (by kernel_rfl) Tryz.func4 (facts_FnAll _ rfl ioL)
    (of_decide_eq_true (by kernel_rfl)) (by unfold Func.isWrapper; first | (rw [if_pos (by decide +kernel)]; kernel_rfl) | (rw [if_neg (by decide +kernel)]; exact ⟨rfl, rfl⟩))
    (fun os started H enc _ => lifted_l_FnAll os started H enc)
end Go.Proofs.YtgimfahkojmplaaGreat
