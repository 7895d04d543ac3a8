/-
  FnEntriesPart: for every input the law returns true, and each argument reads afterwards as it read before. No conditions.
-/
import Derived.Test.YthongcikinnjlaaRows
import Derived.Test.YthongcikinnjlaaT
import Derived.Test.YthongcikinnjlaaSa
import Derived.Test.YthongcikinnjlaaSb
import Derived.Test.YthongcikinnjlaaSi
set_option linter.unusedVariables false
set_option linter.unusedSimpArgs false
open Go Go.Ax Go.Mx Go.ChangeShapes Go.WideShapes Go.RowKit Go.ChangeAt
namespace Go.Proofs.Ythongcikinnjlaa
def V_l_FnEntriesPart : Prop :=
  ∀ (l0 l1 : List UInt8), (↑(List.length l0) : Int) ≤ 9223372036854775807 ∧ (↑(List.length l1) : Int) ≤ 9223372036854775807 → (1048576 < (↑(List.length l0) : Int) → true = true) ∧ (¬1048576 < (↑(List.length l0) : Int) → (1048576 <
    (↑(List.length l1) : Int) → true = true) ∧ (¬1048576 < (↑(List.length l1) : Int) → (↑(List.length l0) : Int) ≤ 1099511627776 ∧ ∀ (l2 : List (Int × List Int)), (↑(List.length l2) : Int) ≤ 7 ∧ szE l2 ≤ 5000 → szE l2 ≤ 2000000 ∧ (true = entOk
    l2 → szE l2 ≤ 2000000 ∧ (true = entOk l2 → ((↑(List.length l2) : Int) = 0 → true = true) ∧ (¬(↑(List.length l2) : Int) = 0 → 0 ≤ (↑(List.length l1) : Int) ∧ 0 < (↑(List.length l2) : Int) ∧ (0 : Int) ≤ 0 ∧ 0 ≤ (↑(List.length l1) : Int) %
    (↑(List.length l2) : Int) ∧ (↑(List.length l1) : Int) % (↑(List.length l2) : Int) ≤ (↑(List.length l2) : Int) ∧ (↑(0 + List.length (List.take (Int.toNat ((↑(List.length l1) : Int) % (↑(List.length l2) : Int) - 0)) (List.drop (Int.toNat 0)
    l2))) : Int) ≤ 1099511627776 ∧ (-9223372036854775808 ≤ (↑(List.length l1) : Int) % (↑(List.length l2) : Int) + 1 ∧ (↑(List.length l1) : Int) % (↑(List.length l2) : Int) + (1 : Int) ≤ 9223372036854775807) ∧ 0 ≤ (↑(List.length l1) : Int) %
    (↑(List.length l2) : Int) + 1 ∧ (↑(List.length l1) : Int) % (↑(List.length l2) : Int) + 1 ≤ (↑(List.length l2) : Int) ∧ (↑(List.length l2) : Int) ≤ (↑(List.length l2) : Int) ∧ (↑(List.length (List.take (Int.toNat ((↑(List.length l1) : Int) %
    (↑(List.length l2) : Int) - 0)) (List.drop (Int.toNat 0) l2)) + List.length (List.take (Int.toNat ((↑(List.length l2) : Int) - ((↑(List.length l1) : Int) % (↑(List.length l2) : Int) + 1))) (List.drop (Int.toNat ((↑(List.length l1) : Int) %
    (↑(List.length l2) : Int) + 1)) l2))) : Int) ≤ 1099511627776 ∧ (-9223372036854775808 ≤ (↑(List.length l1) : Int) % (↑(List.length l2) : Int) + 1 ∧ (↑(List.length l1) : Int) % (↑(List.length l2) : Int) + (1 : Int) ≤ 9223372036854775807) ∧ (0 : Int) ≤ 0 ∧ 0 ≤
    (↑(List.length l1) : Int) % (↑(List.length l2) : Int) + 1 ∧ (↑(List.length l1) : Int) % (↑(List.length l2) : Int) + 1 ≤ (↑(List.length l2) : Int) ∧ (↑(0 + List.length (List.take (Int.toNat ((↑(List.length l1) : Int) % (↑(List.length l2) :
    Int) + 1 - 0)) (List.drop (Int.toNat 0) l2))) : Int) ≤ 1099511627776 ∧ 0 ≤ (↑(List.length l1) : Int) % (↑(List.length l2) : Int) ∧ (↑(List.length l1) : Int) % (↑(List.length l2) : Int) ≤ (↑(List.length l2) : Int) ∧ (↑(List.length l2) : Int)
    ≤ (↑(List.length l2) : Int) ∧ (↑(List.length (List.take (Int.toNat ((↑(List.length l1) : Int) % (↑(List.length l2) : Int) + 1 - 0)) (List.drop (Int.toNat 0) l2)) + List.length (List.take (Int.toNat ((↑(List.length l2) : Int) - (↑(List.length
    l1) : Int) % (↑(List.length l2) : Int))) (List.drop (Int.toNat ((↑(List.length l1) : Int) % (↑(List.length l2) : Int))) l2))) : Int) ≤ 1099511627776 ∧ szE (List.take (Int.toNat ((↑(List.length l1) : Int) % (↑(List.length l2) : Int) - 0))
    (List.drop (Int.toNat 0) l2) ++ List.take (Int.toNat ((↑(List.length l2) : Int) - ((↑(List.length l1) : Int) % (↑(List.length l2) : Int) + 1))) (List.drop (Int.toNat ((↑(List.length l1) : Int) % (↑(List.length l2) : Int) + 1)) l2)) ≤ 2000000
    ∧ (true = entOk (List.take (Int.toNat ((↑(List.length l1) : Int) % (↑(List.length l2) : Int) - 0)) (List.drop (Int.toNat 0) l2) ++ List.take (Int.toNat ((↑(List.length l2) : Int) - ((↑(List.length l1) : Int) % (↑(List.length l2) : Int) +
    1))) (List.drop (Int.toNat ((↑(List.length l1) : Int) % (↑(List.length l2) : Int) + 1)) l2)) → szE (List.take (Int.toNat ((↑(List.length l1) : Int) % (↑(List.length l2) : Int) + 1 - 0)) (List.drop (Int.toNat 0) l2) ++ List.take (Int.toNat
    ((↑(List.length l2) : Int) - (↑(List.length l1) : Int) % (↑(List.length l2) : Int))) (List.drop (Int.toNat ((↑(List.length l1) : Int) % (↑(List.length l2) : Int))) l2)) ≤ 2000000 ∧ (true = entOk (List.take (Int.toNat ((↑(List.length l1) :
    Int) % (↑(List.length l2) : Int) + 1 - 0)) (List.drop (Int.toNat 0) l2) ++ List.take (Int.toNat ((↑(List.length l2) : Int) - (↑(List.length l1) : Int) % (↑(List.length l2) : Int))) (List.drop (Int.toNat ((↑(List.length l1) : Int) %
    (↑(List.length l2) : Int))) l2)) → false = true) ∧ (false = entOk (List.take (Int.toNat ((↑(List.length l1) : Int) % (↑(List.length l2) : Int) + 1 - 0)) (List.drop (Int.toNat 0) l2) ++ List.take (Int.toNat ((↑(List.length l2) : Int) -
    (↑(List.length l1) : Int) % (↑(List.length l2) : Int))) (List.drop (Int.toNat ((↑(List.length l1) : Int) % (↑(List.length l2) : Int))) l2)) → true = true)) ∧ (false = entOk (List.take (Int.toNat ((↑(List.length l1) : Int) % (↑(List.length
    l2) : Int) - 0)) (List.drop (Int.toNat 0) l2) ++ List.take (Int.toNat ((↑(List.length l2) : Int) - ((↑(List.length l1) : Int) % (↑(List.length l2) : Int) + 1))) (List.drop (Int.toNat ((↑(List.length l1) : Int) % (↑(List.length l2) : Int) +
    1)) l2)) → false = true))) ∧ (false = entOk l2 → false = true)) ∧ (false = entOk l2 → szE l2 ≤ 2000000 ∧ (true = entOk l2 → false = true) ∧ (false = entOk l2 → true = true))))
theorem v_l_FnEntriesPart : V_l_FnEntriesPart := by
  unfold V_l_FnEntriesPart
  rintro code more ⟨hz, hz'⟩
  refine ⟨fun _ => rfl, fun hc => ⟨fun _ => rfl, fun hc' => ⟨by omega, ?_⟩⟩⟩
  rintro l ⟨hl, hs⟩
  refine ⟨by omega, fun hv => ⟨by omega, fun hv' => ⟨fun _ => rfl, fun h0 => ?_⟩, fun h => (by rw [← hv] at h; cases h)⟩, fun hv => ⟨by omega, fun h => (by rw [← hv] at h; cases h), fun _ => rfl⟩⟩
  have m1 := Int.emod_nonneg (more.length : Int) (show (l.length : Int) ≠ 0 by omega)
  have m2 := Int.emod_lt_of_pos (more.length : Int) (show 0 < (l.length : Int) by omega)
  generalize (more.length : Int) % (l.length : Int) = k at *
  obtain ⟨p1, p2⟩ := ent_part hv.symm m1 m2
  have e1 : (l.drop (k + 1).toNat).take ((l.length : Int) - (k + 1)).toNat = l.drop (k + 1).toNat := List.take_of_length_le (by simp; omega)
  have e2 : (l.drop k.toNat).take ((l.length : Int) - k).toNat = l.drop k.toNat := List.take_of_length_le (by simp; omega)
  simp only [Int.sub_zero, Int.toNat_zero, List.drop_zero, e1, e2]
  have s1 := szE_take l k.toNat
  have s2 := szE_take l (k + 1).toNat
  have s3 := szE_drop l k.toNat
  have s4 := szE_drop l (k + 1).toNat
  have t1 := List.length_take (i := k.toNat) (l := l)
  have t2 := List.length_take (i := (k + 1).toNat) (l := l)
  have t3 := List.length_drop (i := k.toNat) (l := l)
  have t4 := List.length_drop (i := (k + 1).toNat) (l := l)
  simp only [szE_append]
  rw [p1, p2]
  repeat' (first | apply And.intro | (rintro _ _ _ ⟨rfl, rfl, _, _⟩) | (rintro _ _ _ ⟨rfl, _, _, _⟩) | (rintro _ _ _ _ ⟨rfl, _, _, _⟩) | (rintro _ _ ⟨rfl, _⟩) | intro _)
  all_goals (first | omega | simp_all)
def S_l_FnEntriesPart : FSpec where
  args := [.sc (.sl .u8), .sc (.sl .u8)]
  outs := [.sc .bool]
  pre := fun a => match a with
    | [.sc (.sl .u8 code), .sc (.sl .u8 more)] => (((code).length : Nat) : Int) ≤ 9223372036854775807 ∧ (((more).length : Nat) : Int) ≤ 9223372036854775807
    | _ => False
  post := fun a r => match a, r with
    | [.sc (.sl .u8 code), .sc (.sl .u8 more)], [.sc (.bool r)] => r = true
    | _, _ => False
  kept := false
theorem m_l_FnEntriesPart : Meets Try.prog 3 S_l_FnEntriesPart :=
  meets tok mixed Try.func3 (by kernel_rfl) (l := [(26, S_s_DrawEntriesValid), (27, S_i_EntriesValid), (28, S_s_EntriesValid)]) ⟨m_s_DrawEntriesValid, m_i_EntriesValid, m_s_EntriesValid, trivial⟩ (ann := []) v_l_FnEntriesPart (by kernel_rfl)
theorem a_l_FnEntriesPart : LawOf Try.prog Try.f3.params.toList S_l_FnEntriesPart where
  args := by kernel_rfl
  outs := rfl
  pre := AKs.all_iff.1 (show AKs.all S_l_FnEntriesPart.args (fun ds => bnds ds → S_l_FnEntriesPart.pre ds) from fun x0 x1 h => ⟨h.1, h.2.1⟩)
  post := AKs.all_iff.1 (show AKs.all S_l_FnEntriesPart.args (fun ds => ∀ b, S_l_FnEntriesPart.post ds [.sc (.bool b)] → b = true) from fun x0 x1 _ h => h)
set_option maxRecDepth 100000 in
theorem lifted_l_FnEntriesPart (os : Os) (started : os.Started) (H : Type) (enc : TypeId × Value → H) :
    ReturnsInHanded {} Try.checked os 3 .any (Rows.fnEntriesPartSpec.pre6 enc Try.prog Try.f3 Rows.fnEntriesPartRow.domain false) (Rows.fnEntriesPartSpec.post enc Try.prog Try.f3 false true false false) :=
  law_lifted (C := Try.checked) (F := S_l_FnEntriesPart) (by kernel_rfl) started (by kernel_rfl) Try.func3
    (ChangeSpec.witness6 (enc := enc) (C := Try.checked) false ⟨#[], #[.slice none 0 0, .slice none 0 0], []⟩ 8 (by kernel_rfl) (by kernel_rfl) (by kernel_rfl) (by kernel_rfl))
    m_l_FnEntriesPart a_l_FnEntriesPart (by kernel_rfl) (of_decide_eq_true (by kernel_rfl)) rfl (fun ds h => by match ds, h with | [d0, d1], _ => rfl) (by kernel_rfl) Try.underlying4
theorem facts_FnEntriesPart : ∀ P : Program, P = Try.prog → P.initOrder.toList = ioNums.map Char.ofNat → joinedFacts P 3 Try.f3 Rows.fnEntriesPartSpec Rows.fnEntriesPartRow = true := by
  intro P hP h
  have h1 := io1 P hP h
  have h2 := io2 P hP h
  have h3 := io3 P hP h
  unfold joinedFacts
  rw [h1, h2, h3]
  subst hP
  show (_ : Bool) = true
  kernel_rfl
theorem proved_FnEntriesPart : Rows.FnEntriesPartSaid :=
  OpenClaim.holds_of_wide 3 Try.f3 rfl rfl rfl rfl rfl rfl rfl ⟨rfl, rfl, rfl, rfl, rfl⟩ rfl rfl rfl rfl rfl (by kernel_rfl) Try.func3 (facts_FnEntriesPart _ rfl ioL)
    (of_decide_eq_true (by kernel_rfl)) (by unfold Func.isWrapper; first | (rw [if_pos (by decide +kernel)]; kernel_rfl) | (rw [if_neg (by decide +kernel)]; exact ⟨rfl, rfl⟩))
    (fun os started H enc _ => lifted_l_FnEntriesPart os started H enc)
end Go.Proofs.Ythongcikinnjlaa
