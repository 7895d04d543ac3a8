/-
  FnPrefaceExpand: for every input the law returns true, and each argument reads afterwards as it read before. No conditions.
-/
import Derived.Test.YthongcikinnjlaaRows
import Derived.Test.YthongcikinnjlaaT
import Derived.Test.YthongcikinnjlaaSa
import Derived.Test.YthongcikinnjlaaSb
import Derived.Test.YthongcikinnjlaaSf
import Derived.Test.YthongcikinnjlaaSg
import Derived.Test.YthongcikinnjlaaSh
set_option linter.unusedVariables false
set_option linter.unusedSimpArgs false
open Go Go.Ax Go.Mx Go.ChangeShapes Go.WideShapes Go.RowKit Go.ChangeAt
namespace Go.Proofs.Ythongcikinnjlaa
def V_l_FnPrefaceExpand : Prop :=
  ∀ (l0 : List UInt8), (↑(List.length l0) : Int) ≤ 9223372036854775807 → (1048576 < (↑(List.length l0) : Int) → true = true) ∧ (¬1048576 < (↑(List.length l0) : Int) → (↑(List.length l0) : Int) ≤ 1099511627776 ∧ ∀ (l1 : List Int) (l2 : List
    (Int × Int × Int)), (↑(List.length l1) : Int) ≤ 400 ∧ (↑(List.length l2) : Int) ≤ 80 → ((↑(List.length l1) : Int) ≤ 10000000 ∧ (↑(List.length l2) : Int) ≤ 10000000) ∧ ∀ (l3 : List Int), (true = Option.isSome (pexpD l1 l2) ∧ l3 = Option.getD
    (pexpD l1 l2) [] → ((↑(List.length l1) : Int) ≤ 10000000 ∧ (↑(List.length l2) : Int) ≤ 10000000) ∧ ∀ (l4 : List Int), (true = Option.isSome (pexpD l1 l2) ∧ l4 = Option.getD (pexpD l1 l2) [] → ((↑(List.length l3) : Int) ≤ 1099511627776 ∧
    (↑(List.length l4) : Int) ≤ 1099511627776) ∧ (true = decide (l3 = l4) → ∃ (I5 : List (Int × Int × Int) → Int → Prop), ∃ (m6 : List (Int × Int × Int) → Int → Nat), I5 [] 0 ∧ ∀ (l7 : List (Int × Int × Int)) (n8 : Int), I5 l7 n8 → (n8 <
    (↑(List.length l1) : Int) → 0 ≤ n8 ∧ n8 < (↑(List.length l1) : Int) ∧ Int.toNat n8 < List.length l1 ∧ (↑(List.length l7 + List.length [(List.getD l1 (Int.toNat n8) 0, 0, 0)]) : Int) ≤ 1099511627776 ∧ (-9223372036854775808 ≤ n8 + 1 ∧ n8 + (1 : Int) ≤ 9223372036854775807) ∧ I5 (l7 ++ [(List.getD l1 (Int.toNat n8) 0, 0, 0)]) (n8 + 1) ∧ m6 (l7 ++ [(List.getD l1 (Int.toNat n8) 0, 0, 0)]) (n8 + 1) < m6 l7 n8) ∧ (¬n8 < (↑(List.length l1) : Int) → (↑(List.length l7 + List.length l2) : Int) ≤
    1099511627776 ∧ (↑(List.length (l7 ++ l2)) : Int) ≤ 1099511627776 ∧ ∀ (l9 : List Int), (true = Option.isSome (expand (l7 ++ l2)) ∧ l9 = Option.getD (expand (l7 ++ l2)) [] → (↑(0 + List.length l1) : Int) ≤ 1099511627776 ∧ (↑(List.length l1 +
    List.length l3) : Int) ≤ 1099511627776 ∧ ((↑(List.length l9) : Int) ≤ 1099511627776 ∧ (↑(List.length (l1 ++ l3)) : Int) ≤ 1099511627776) ∧ (true = decide (l9 = l1 ++ l3) → true = true) ∧ (false = decide (l9 = l1 ++ l3) → false = true)) ∧
    (false = Option.isSome (expand (l7 ++ l2)) ∧ l9 = Option.getD (expand (l7 ++ l2)) [] → false = true))) ∧ (false = decide (l3 = l4) → ((↑(List.length l3) : Int) ≤ 1099511627776 ∧ (↑(List.length l4) : Int) ≤ 1099511627776) ∧ (true = decide (l3
    = l4) → true = true) ∧ (false = decide (l3 = l4) → false = true))) ∧ (false = Option.isSome (pexpD l1 l2) ∧ l4 = Option.getD (pexpD l1 l2) [] → false = true)) ∧ (false = Option.isSome (pexpD l1 l2) ∧ l3 = Option.getD (pexpD l1 l2) [] →
    ((↑(List.length l1) : Int) ≤ 10000000 ∧ (↑(List.length l2) : Int) ≤ 10000000) ∧ ∀ (l10 : List Int), (true = Option.isSome (pexpD l1 l2) ∧ l10 = Option.getD (pexpD l1 l2) [] → false = true) ∧ (false = Option.isSome (pexpD l1 l2) ∧ l10 =
    Option.getD (pexpD l1 l2) [] → ((↑(List.length l3) : Int) ≤ 1099511627776 ∧ (↑(List.length l10) : Int) ≤ 1099511627776) ∧ (true = decide (l3 = l10) → ((↑(List.length l3) : Int) ≤ 1099511627776 ∧ (↑(List.length l10) : Int) ≤ 1099511627776) ∧
    (true = decide (l3 = l10) → true = true) ∧ (false = decide (l3 = l10) → false = true)) ∧ (false = decide (l3 = l10) → ((↑(List.length l3) : Int) ≤ 1099511627776 ∧ (↑(List.length l10) : Int) ≤ 1099511627776) ∧ (true = decide (l3 = l10) → true
    = true) ∧ (false = decide (l3 = l10) → false = true)))))
theorem v_l_FnPrefaceExpand : V_l_FnPrefaceExpand := by
  unfold V_l_FnPrefaceExpand
  intro code hz
  refine ⟨fun _ => rfl, fun hc => ⟨by omega, ?_⟩⟩
  intro p ts hb
  have hl := pexpD_len p ts
  cases hr : pexpD p ts with
  | none =>
    simp only [Option.isSome_none, Option.getD_none]
    repeat' (first | apply And.intro | (rintro _ rfl) | (rintro _ _ ⟨rfl, rfl⟩) | (intro (h : _ = _ ∧ _ = _); obtain ⟨_, rfl⟩ := h) | (intro _ (h : _ = _ ∧ _ ≤ _); obtain ⟨rfl, _⟩ := h) | intro _)
    all_goals (first | omega | with_reducible rfl | (simp only [marks_len, marks3_len]; omega) | (rename_i h; simp [marks_len, marks3_len] at h; done) | (rename_i h; simp [marks_len, marks3_len] at h; omega) | grind)
  | some r =>
    have hA := pexpD_all hr
    rw [hr] at hl
    simp only [Option.isSome_some, Option.getD_some] at *
    refine ⟨by omega, ?_⟩
    intro out
    refine ⟨?_, fun h => by simp at h⟩
    rintro ⟨_, rfl⟩
    refine ⟨by omega, ?_⟩
    intro want
    refine ⟨?_, fun h => by simp at h⟩
    rintro ⟨_, rfl⟩
    refine ⟨by omega, fun _ => ?_, fun h => by simp at h⟩
    refine ⟨fun o i => 0 ≤ i ∧ i ≤ p.length ∧ o = (p.take i.toNat).map (fun s => (s, 0, 0)), fun o i => (p.length - i).toNat, ?_, ?_⟩ <;> dsimp only
    · simp
    rintro o i ⟨i0, i1, rfl⟩
    have hm : ((p.take i.toNat).map (fun s => (s, (0 : Int), (0 : Int)))).length = i.toNat := by simp; omega
    refine ⟨fun hlt => ?_, fun hge => ?_⟩
    · rw [hm]
      refine ⟨i0, hlt, by omega, by simp; omega, by omega, ⟨by omega, by omega, ?_⟩, by omega⟩
      rw [take_lt 0 i0 hlt]; simp
    · rw [take_ge hge] at hm
      rw [take_ge hge]
      have hm2 : (p.map (fun s => (s, (0 : Int), (0 : Int))) ++ ts).length = p.length + ts.length := by simp
      have h40 := expand_len (xs := p.map (fun s => (s, 0, 0)) ++ ts) (a := []) hA (by simp)
      have hlen : (p ++ want).length = p.length + want.length := List.length_append
      rw [hm2, hA]
      simp only [Option.isSome_some, Option.getD_some]
      refine ⟨by omega, by omega, ?_⟩
      intro x
      refine ⟨?_, fun h => by simp at h⟩
      rintro ⟨_, rfl⟩
      exact ⟨by omega, by omega, ⟨by omega, by omega⟩, fun _ => by trivial, fun h => by simp at h⟩
def S_l_FnPrefaceExpand : FSpec where
  args := [.sc (.sl .u8)]
  outs := [.sc .bool]
  pre := fun a => match a with
    | [.sc (.sl .u8 code)] => (((code).length : Nat) : Int) ≤ 9223372036854775807
    | _ => False
  post := fun a r => match a, r with
    | [.sc (.sl .u8 code)], [.sc (.bool r)] => r = true
    | _, _ => False
  kept := false
theorem m_l_FnPrefaceExpand : Meets Try.prog 24 S_l_FnPrefaceExpand :=
  meets tok mixed Try.func24 (by kernel_rfl) (l := [(58, S_s_PrefaceExpand), (60, S_i_PrefaceExpand), (61, S_l_sameInts), (70, S_s_DrawPrefaceExpand), (71, S_i_TokensExpand)]) ⟨m_s_PrefaceExpand, m_i_PrefaceExpand, m_l_sameInts, m_s_DrawPrefaceExpand, m_i_TokensExpand, trivial⟩ (ann := [(10, [.slot 9 (.own 64 .r3), .slot 10 .int])]) v_l_FnPrefaceExpand (by kernel_rfl)
theorem a_l_FnPrefaceExpand : LawOf Try.prog Try.f24.params.toList S_l_FnPrefaceExpand where
  args := by kernel_rfl
  outs := rfl
  pre := AKs.all_iff.1 (show AKs.all S_l_FnPrefaceExpand.args (fun ds => bnds ds → S_l_FnPrefaceExpand.pre ds) from fun x0 h => h.1)
  post := AKs.all_iff.1 (show AKs.all S_l_FnPrefaceExpand.args (fun ds => ∀ b, S_l_FnPrefaceExpand.post ds [.sc (.bool b)] → b = true) from fun x0 _ h => h)
set_option maxRecDepth 100000 in
theorem lifted_l_FnPrefaceExpand (os : Os) (started : os.Started) (H : Type) (enc : TypeId × Value → H) :
    ReturnsInHanded {} Try.checked os 24 .any (Rows.fnPrefaceExpandSpec.pre6 enc Try.prog Try.f24 Rows.fnPrefaceExpandRow.domain false) (Rows.fnPrefaceExpandSpec.post enc Try.prog Try.f24 false true false false) :=
  law_lifted (C := Try.checked) (F := S_l_FnPrefaceExpand) (by kernel_rfl) started (by kernel_rfl) Try.func24
    (ChangeSpec.witness6 (enc := enc) (C := Try.checked) false ⟨#[], #[.slice none 0 0], []⟩ 8 (by kernel_rfl) (by kernel_rfl) (by kernel_rfl) (by kernel_rfl))
    m_l_FnPrefaceExpand a_l_FnPrefaceExpand (by kernel_rfl) (of_decide_eq_true (by kernel_rfl)) rfl (fun ds h => by match ds, h with | [d0], _ => rfl) (by kernel_rfl) Try.underlying4
theorem facts_FnPrefaceExpand : ∀ P : Program, P = Try.prog → P.initOrder.toList = ioNums.map Char.ofNat → joinedFacts P 24 Try.f24 Rows.fnPrefaceExpandSpec Rows.fnPrefaceExpandRow = true := by
  intro P hP h
  have h1 := io1 P hP h
  have h2 := io2 P hP h
  have h3 := io3 P hP h
  unfold joinedFacts
  rw [h1, h2, h3]
  subst hP
  show (_ : Bool) = true
  kernel_rfl
theorem proved_FnPrefaceExpand : Rows.FnPrefaceExpandSaid :=
  OpenClaim.holds_of_wide 24 Try.f24 rfl rfl rfl rfl rfl rfl rfl ⟨rfl, rfl, rfl, rfl, rfl⟩ rfl rfl rfl rfl rfl (by kernel_rfl) Try.func24 (facts_FnPrefaceExpand _ rfl ioL)
    (of_decide_eq_true (by kernel_rfl)) (by unfold Func.isWrapper; first | (rw [if_pos (by decide +kernel)]; kernel_rfl) | (rw [if_neg (by decide +kernel)]; exact ⟨rfl, rfl⟩))
    (fun os started H enc _ => lifted_l_FnPrefaceExpand os started H enc)
end Go.Proofs.Ythongcikinnjlaa
