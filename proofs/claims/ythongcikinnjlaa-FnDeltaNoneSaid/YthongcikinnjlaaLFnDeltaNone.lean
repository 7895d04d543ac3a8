/-
  FnDeltaNone: for every input the law returns true, and each argument reads afterwards as it read before. No conditions.
-/
import Derived.Test.YthongcikinnjlaaRows
import Derived.Test.YthongcikinnjlaaT
import Derived.Test.YthongcikinnjlaaSa
import Derived.Test.YthongcikinnjlaaSb
import Derived.Test.YthongcikinnjlaaSc
import Derived.Test.YthongcikinnjlaaSd
set_option linter.unusedVariables false
set_option linter.unusedSimpArgs false
open Go Go.Ax Go.Mx Go.ChangeShapes Go.WideShapes Go.RowKit Go.ChangeAt
namespace Go.Proofs.Ythongcikinnjlaa
def V_l_FnDeltaNone : Prop :=
  ∀ (l0 : List UInt8), (↑(List.length l0) : Int) ≤ 9223372036854775807 → (1048576 < (↑(List.length l0) : Int) → true = true) ∧ (¬1048576 < (↑(List.length l0) : Int) → (↑(List.length l0) : Int) ≤ 1099511627776 ∧ ∀ (l1 l2 : List Int),
    (↑(List.length l1) : Int) ≤ 400 ∧ (↑(List.length l2) : Int) ≤ 400 → ((↑(List.length l1) : Int) ≤ 1099511627776 ∧ (↑(List.length l2) : Int) ≤ 1099511627776) ∧ ∀ (l3 : List (Int × Int × Int)), l3 = deltaD l1 l2 ∧ (↑(List.length l3) : Int) ≤ 40
    → ((↑(List.length l1) : Int) ≤ 1099511627776 ∧ (↑(List.length l2) : Int) ≤ 1099511627776) ∧ ∀ (l4 : List (Int × Int × Int)), l4 = deltaD l1 l2 ∧ (↑(List.length l4) : Int) ≤ 40 → ((↑(List.length l3) : Int) ≤ 1099511627776 ∧ (↑(List.length l4)
    : Int) ≤ 1099511627776) ∧ (true = decide (l3 = l4) → (↑(List.length l2) : Int) ≤ 1099511627776 ∧ (true = LV l2 → ((↑0 : Int) ≤ 1099511627776 ∧ (↑(List.length l2) : Int) ≤ 1099511627776) ∧ ∀ (l5 : List (Int × Int × Int)), l5 = deltaD [] l2 ∧
    (↑(List.length l5) : Int) ≤ 40 → ∃ (I6 : Int → Prop), ∃ (m7 : Int → Nat), I6 0 ∧ ∀ (n8 : Int), I6 n8 → (n8 < (↑(List.length l5) : Int) → 0 ≤ n8 ∧ n8 < (↑(List.length l5) : Int) ∧ Int.toNat n8 < List.length l5 ∧ 0 ≤ n8 ∧ n8 < (↑(List.length
    l2) : Int) ∧ Int.toNat n8 < List.length l2 ∧ (¬(Prod.fst (List.getD l5 (Int.toNat n8) (0, 0, 0)) = List.getD l2 (Int.toNat n8) 0 ∧ Prod.fst (Prod.snd (List.getD l5 (Int.toNat n8) (0, 0, 0))) = 0 ∧ Prod.snd (Prod.snd (List.getD l5 (Int.toNat
    n8) (0, 0, 0))) = 0) → false = true) ∧ (¬¬(Prod.fst (List.getD l5 (Int.toNat n8) (0, 0, 0)) = List.getD l2 (Int.toNat n8) 0 ∧ Prod.fst (Prod.snd (List.getD l5 (Int.toNat n8) (0, 0, 0))) = 0 ∧ Prod.snd (Prod.snd (List.getD l5 (Int.toNat n8)
    (0, 0, 0))) = 0) → (-9223372036854775808 ≤ n8 + 1 ∧ n8 + (1 : Int) ≤ 9223372036854775807) ∧ I6 (n8 + 1) ∧ m7 (n8 + 1) < m7 n8)) ∧ (¬n8 < (↑(List.length l5) : Int) → ((↑(List.length l5) : Int) = (↑(List.length l2) : Int) → true = true) ∧
    (¬(↑(List.length l5) : Int) = (↑(List.length l2) : Int) → false = true))) ∧ (false = LV l2 → ((↑(List.length l3) : Int) ≤ 1099511627776 ∧ (↑(List.length l4) : Int) ≤ 1099511627776) ∧ (true = decide (l3 = l4) → true = true) ∧ (false = decide
    (l3 = l4) → false = true))) ∧ (false = decide (l3 = l4) → ((↑(List.length l3) : Int) ≤ 1099511627776 ∧ (↑(List.length l4) : Int) ≤ 1099511627776) ∧ (true = decide (l3 = l4) → true = true) ∧ (false = decide (l3 = l4) → false = true)))
theorem v_l_FnDeltaNone : V_l_FnDeltaNone := by
  unfold V_l_FnDeltaNone
  intro code hz
  refine ⟨fun _ => rfl, fun hc => ⟨by omega, ?_⟩⟩
  intro old list hb
  have hN : true = LV list → deltaD [] list = list.map fun s => (s, 0, 0) := fun h => deltaD_none h.symm
  repeat' (first | apply And.intro | (rintro _ rfl) | (rintro _ _ ⟨rfl, rfl⟩) | (intro (h : _ = _ ∧ _ = _); obtain ⟨_, rfl⟩ := h) | (intro _ (h : _ = _ ∧ _ ≤ _); obtain ⟨rfl, _⟩ := h) | intro _)
  all_goals try (first | omega | with_reducible rfl | (simp only [marks_len, marks3_len]; omega) | (rename_i h; simp [marks_len, marks3_len] at h; done) | (rename_i h; simp [marks_len, marks3_len] at h; omega) | grind)
  rename_i hv _
  have hN' := hN hv
  have hl : (deltaD [] list).length = list.length := by rw [hN']; simp
  refine ⟨fun i => 0 ≤ i ∧ i ≤ list.length, fun i => (list.length - i).toNat, ?_, ?_⟩ <;> dsimp only
  · simp
  rintro i ⟨h0, h1⟩
  refine ⟨fun hlt => ?_, fun hge => ⟨fun _ => rfl, fun h => by omega⟩⟩
  have hx : (deltaD [] list).getD i.toNat (0, 0, 0) = (list.getD i.toNat 0, 0, 0) := by
    have : i.toNat < list.length := by omega
    rw [hN']; simp [List.getD_eq_getElem?_getD, this]
  rw [hx]
  refine ⟨by omega, by omega, by omega, by omega, by omega, by omega, fun h => absurd ⟨rfl, rfl, rfl⟩ h, fun _ => ⟨by omega, ⟨by omega, by omega⟩, by omega⟩⟩
def S_l_FnDeltaNone : FSpec where
  args := [.sc (.sl .u8)]
  outs := [.sc .bool]
  pre := fun a => match a with
    | [.sc (.sl .u8 code)] => (((code).length : Nat) : Int) ≤ 9223372036854775807
    | _ => False
  post := fun a r => match a, r with
    | [.sc (.sl .u8 code)], [.sc (.bool r)] => r = true
    | _, _ => False
  kept := false
theorem m_l_FnDeltaNone : Meets Try.prog 8 S_l_FnDeltaNone :=
  meets tok mixed Try.func8 (by kernel_rfl) (l := [(39, S_s_DeltaOf), (40, S_i_DeltaOf), (44, S_s_DrawDeltaOf), (45, S_l_samePieces), (46, S_s_ListValid)]) ⟨m_s_DeltaOf, m_i_DeltaOf, m_s_DrawDeltaOf, m_l_samePieces, m_s_ListValid, trivial⟩ (ann := [(10, [.slot 8 .int])]) v_l_FnDeltaNone (by kernel_rfl)
theorem a_l_FnDeltaNone : LawOf Try.prog Try.f8.params.toList S_l_FnDeltaNone where
  args := by kernel_rfl
  outs := rfl
  pre := AKs.all_iff.1 (show AKs.all S_l_FnDeltaNone.args (fun ds => bnds ds → S_l_FnDeltaNone.pre ds) from fun x0 h => h.1)
  post := AKs.all_iff.1 (show AKs.all S_l_FnDeltaNone.args (fun ds => ∀ b, S_l_FnDeltaNone.post ds [.sc (.bool b)] → b = true) from fun x0 _ h => h)
set_option maxRecDepth 100000 in
theorem lifted_l_FnDeltaNone (os : Os) (started : os.Started) (H : Type) (enc : TypeId × Value → H) :
    ReturnsInHanded {} Try.checked os 8 .any (Rows.fnDeltaNoneSpec.pre6 enc Try.prog Try.f8 Rows.fnDeltaNoneRow.domain false) (Rows.fnDeltaNoneSpec.post enc Try.prog Try.f8 false true false false) :=
  law_lifted (C := Try.checked) (F := S_l_FnDeltaNone) (by kernel_rfl) started (by kernel_rfl) Try.func8
    (ChangeSpec.witness6 (enc := enc) (C := Try.checked) false ⟨#[], #[.slice none 0 0], []⟩ 8 (by kernel_rfl) (by kernel_rfl) (by kernel_rfl) (by kernel_rfl))
    m_l_FnDeltaNone a_l_FnDeltaNone (by kernel_rfl) (of_decide_eq_true (by kernel_rfl)) rfl (fun ds h => by match ds, h with | [d0], _ => rfl) (by kernel_rfl) Try.underlying4
theorem facts_FnDeltaNone : ∀ P : Program, P = Try.prog → P.initOrder.toList = ioNums.map Char.ofNat → joinedFacts P 8 Try.f8 Rows.fnDeltaNoneSpec Rows.fnDeltaNoneRow = true := by
  intro P hP h
  have h1 := io1 P hP h
  have h2 := io2 P hP h
  have h3 := io3 P hP h
  unfold joinedFacts
  rw [h1, h2, h3]
  subst hP
  show (_ : Bool) = true
  kernel_rfl
theorem proved_FnDeltaNone : Rows.FnDeltaNoneSaid :=
  OpenClaim.holds_of_wide 8 Try.f8 rfl rfl rfl rfl rfl rfl rfl ⟨rfl, rfl, rfl, rfl, rfl⟩ rfl rfl rfl rfl rfl (by kernel_rfl) Try.func8 (facts_FnDeltaNone _ rfl ioL)
    (of_decide_eq_true (by kernel_rfl)) (by unfold Func.isWrapper; first | (rw [if_pos (by decide +kernel)]; kernel_rfl) | (rw [if_neg (by decide +kernel)]; exact ⟨rfl, rfl⟩))
    (fun os started H enc _ => lifted_l_FnDeltaNone os started H enc)
end Go.Proofs.Ythongcikinnjlaa
