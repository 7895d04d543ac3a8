/-
  FnArchiveGetNone: for every input the law returns true, and each argument reads afterwards as it read before. No conditions.
-/
import Derived.Test.YtmfamcaiimhaeaaRows
import Derived.Test.YtmfamcaiimhaeaaT
import Derived.Test.YtmfamcaiimhaeaaSa
import Derived.Test.YtmfamcaiimhaeaaSb
import Derived.Test.YtmfamcaiimhaeaaSf
import Derived.Test.YtmfamcaiimhaeaaSg
import Derived.Test.YtmfamcaiimhaeaaSi
import Derived.Test.YtmfamcaiimhaeaaSj
import Derived.Test.YtmfamcaiimhaeaaSk
import Derived.Test.YtmfamcaiimhaeaaSl
import Derived.Test.YtmfamcaiimhaeaaSm
import Derived.Test.YtmfamcaiimhaeaaSn
import Derived.Test.YtmfamcaiimhaeaaSo
import Derived.Test.YtmfamcaiimhaeaaSp
import Derived.Test.YtmfamcaiimhaeaaSr
import Derived.Test.YtmfamcaiimhaeaaSs
set_option linter.unusedVariables false
set_option linter.unusedSimpArgs false
open Go Go.Ax Go.Mx Go.ChangeShapes Go.WideShapes Go.RowKit Go.ChangeAt
namespace Go.Proofs.Ytmfamcaiimhaeaa
def V_l_FnArchiveGetNone : Prop :=
  ∀ (l0 : List UInt8), (↑(List.length l0) : Int) ≤ (9223372036854775807 : Int) → (1048576 < (↑(List.length l0) : Int) → true = true) ∧ (¬1048576 < (↑(List.length l0) : Int) → (↑(List.length l0) : Int) ≤ 1099511627776 ∧ ∀ (l1 : List Int) (n2 : Int),
    (↑(List.length l1) : Int) ≤ 5001 → (↑(List.length l1) : Int) ≤ 1099511627776 ∧ ∀ (l3 : List Int), (true = Option.isSome (getD' l1 n2) ∧ l3 = Option.getD (getD' l1 n2) [] → (↑(List.length l1) : Int) ≤ 1099511627776 ∧ ∀ (l4 : List Int), (true
    = Option.isSome (getD' l1 n2) ∧ l4 = Option.getD (getD' l1 n2) [] → ((↑(List.length l3) : Int) ≤ 1099511627776 ∧ (↑(List.length l4) : Int) ≤ 1099511627776) ∧ (true = decide (l3 = l4) → (↑(List.length l1) : Int) ≤ 1099511627776 ∧ ∀ (l5 : List
    (Int × List Int)), (true = Option.isSome (aopenD l1) ∧ l5 = Option.getD (aopenD l1) [] → ∃ (I6 : Bool → Int → Prop), ∃ (m7 : Bool → Int → Nat), I6 false 0 ∧ (∀ (n8 : Int), I6 true n8 → (n8 < (↑(List.length l5) : Int) → (-9223372036854775808
    ≤ n8 + 1 ∧ n8 + (1 : Int) ≤ (9223372036854775807 : Int)) ∧ I6 true (n8 + 1) ∧ m7 true (n8 + 1) < m7 true n8) ∧ (¬n8 < (↑(List.length l5) : Int) → true = true)) ∧ ∀ (n9 : Int), I6 false n9 → (n9 < (↑(List.length l5) : Int) → 0 ≤ n9 ∧ n9 < (↑(List.length l5)
    : Int) ∧ Int.toNat n9 < List.length l5 ∧ (Prod.fst (List.getD l5 (Int.toNat n9) (0, [])) = n2 → 0 ≤ n9 ∧ n9 < (↑(List.length l5) : Int) ∧ Int.toNat n9 < List.length l5 ∧ ((↑(List.length (Prod.snd (List.getD l5 (Int.toNat n9) (0, [])))) :
    Int) ≤ 1099511627776 ∧ (↑(List.length l3) : Int) ≤ 1099511627776) ∧ (true = decide (Prod.snd (List.getD l5 (Int.toNat n9) (0, [])) = l3) → (-9223372036854775808 ≤ n9 + 1 ∧ n9 + (1 : Int) ≤ (9223372036854775807 : Int)) ∧ I6 true (n9 + 1) ∧ m7 true (n9 + 1) <
    m7 false n9) ∧ (false = decide (Prod.snd (List.getD l5 (Int.toNat n9) (0, [])) = l3) → (-9223372036854775808 ≤ n9 + 1 ∧ n9 + (1 : Int) ≤ (9223372036854775807 : Int)) ∧ I6 false (n9 + 1) ∧ m7 false (n9 + 1) < m7 false n9)) ∧ (¬Prod.fst (List.getD l5
    (Int.toNat n9) (0, [])) = n2 → (-9223372036854775808 ≤ n9 + 1 ∧ n9 + (1 : Int) ≤ (9223372036854775807 : Int)) ∧ I6 false (n9 + 1) ∧ m7 false (n9 + 1) < m7 false n9)) ∧ (¬n9 < (↑(List.length l5) : Int) → false = true)) ∧ (false = Option.isSome (aopenD l1) ∧
    l5 = Option.getD (aopenD l1) [] → ∃ (I10 : Bool → Int → Prop), ∃ (m11 : Bool → Int → Nat), I10 false 0 ∧ (∀ (n12 : Int), I10 true n12 → (n12 < (↑(List.length l5) : Int) → (-9223372036854775808 ≤ n12 + 1 ∧ n12 + (1 : Int) ≤ (9223372036854775807 : Int)) ∧ I10
    true (n12 + 1) ∧ m11 true (n12 + 1) < m11 true n12) ∧ (¬n12 < (↑(List.length l5) : Int) → false = true)) ∧ ∀ (n13 : Int), I10 false n13 → (n13 < (↑(List.length l5) : Int) → 0 ≤ n13 ∧ n13 < (↑(List.length l5) : Int) ∧ Int.toNat n13 <
    List.length l5 ∧ (Prod.fst (List.getD l5 (Int.toNat n13) (0, [])) = n2 → 0 ≤ n13 ∧ n13 < (↑(List.length l5) : Int) ∧ Int.toNat n13 < List.length l5 ∧ ((↑(List.length (Prod.snd (List.getD l5 (Int.toNat n13) (0, [])))) : Int) ≤ 1099511627776 ∧
    (↑(List.length l3) : Int) ≤ 1099511627776) ∧ (true = decide (Prod.snd (List.getD l5 (Int.toNat n13) (0, [])) = l3) → (-9223372036854775808 ≤ n13 + 1 ∧ n13 + (1 : Int) ≤ (9223372036854775807 : Int)) ∧ I10 true (n13 + 1) ∧ m11 true (n13 + 1) < m11 false n13)
    ∧ (false = decide (Prod.snd (List.getD l5 (Int.toNat n13) (0, [])) = l3) → (-9223372036854775808 ≤ n13 + 1 ∧ n13 + (1 : Int) ≤ (9223372036854775807 : Int)) ∧ I10 false (n13 + 1) ∧ m11 false (n13 + 1) < m11 false n13)) ∧ (¬Prod.fst (List.getD l5 (Int.toNat
    n13) (0, [])) = n2 → (-9223372036854775808 ≤ n13 + 1 ∧ n13 + (1 : Int) ≤ (9223372036854775807 : Int)) ∧ I10 false (n13 + 1) ∧ m11 false (n13 + 1) < m11 false n13)) ∧ (¬n13 < (↑(List.length l5) : Int) → false = true))) ∧ (false = decide (l3 = l4) →
    ((↑(List.length l3) : Int) ≤ 1099511627776 ∧ (↑(List.length l4) : Int) ≤ 1099511627776) ∧ (true = decide (l3 = l4) → true = true) ∧ (false = decide (l3 = l4) → false = true))) ∧ (false = Option.isSome (getD' l1 n2) ∧ l4 = Option.getD (getD'
    l1 n2) [] → false = true)) ∧ (false = Option.isSome (getD' l1 n2) ∧ l3 = Option.getD (getD' l1 n2) [] → (↑(List.length l1) : Int) ≤ 1099511627776 ∧ ∀ (l14 : List Int), (true = Option.isSome (getD' l1 n2) ∧ l14 = Option.getD (getD' l1 n2) []
    → false = true) ∧ (false = Option.isSome (getD' l1 n2) ∧ l14 = Option.getD (getD' l1 n2) [] → ((↑(List.length l3) : Int) ≤ 1099511627776 ∧ (↑(List.length l14) : Int) ≤ 1099511627776) ∧ (true = decide (l3 = l14) → ((↑(List.length l3) : Int) ≤
    1099511627776 ∧ (↑(List.length l14) : Int) ≤ 1099511627776) ∧ (true = decide (l3 = l14) → true = true) ∧ (false = decide (l3 = l14) → false = true)) ∧ (false = decide (l3 = l14) → ((↑(List.length l3) : Int) ≤ 1099511627776 ∧ (↑(List.length
    l14) : Int) ≤ 1099511627776) ∧ (true = decide (l3 = l14) → true = true) ∧ (false = decide (l3 = l14) → false = true)))))
theorem v_l_FnArchiveGetNone : V_l_FnArchiveGetNone := by
  unfold V_l_FnArchiveGetNone
  intro code hz
  refine ⟨fun _ => rfl, fun hc => ⟨by omega, ?_⟩⟩
  intro b n hb
  refine ⟨by omega, ?_⟩
  cases hg : getD' b n with
  | none =>
    refine fun l3 => ⟨?_, ?_⟩
    · rintro ⟨q, _⟩; cases q
    · rintro ⟨_, rfl⟩
      refine ⟨by omega, fun l4 => ⟨?_, ?_⟩⟩
      · rintro ⟨q, _⟩; cases q
      · rintro ⟨_, rfl⟩
        exact ⟨⟨by simp, by simp⟩, fun _ => ⟨⟨by simp, by simp⟩, fun _ => by trivial, fun q => by simp at q⟩, fun q => by simp at q⟩
  | some l =>
  have hl := getD'_len hg
  refine fun l3 => ⟨?_, ?_⟩
  · rintro ⟨_, h3⟩
    have h3 := h3.symm
    subst h3
    refine ⟨by omega, fun l4 => ⟨?_, ?_⟩⟩
    · rintro ⟨_, h3⟩
      have h3 := h3.symm
      subst h3
      simp only [Option.getD_some]
      refine ⟨⟨by omega, by omega⟩, fun _ => ⟨by omega, ?_⟩, fun q => by simp at q⟩
      cases ho : aopenD b with
      | none => rw [getD'_none ho] at hg; cases hg
      | some es =>
        rw [getD'_some ho] at hg
        obtain ⟨f1, f2, f3, f4, f5⟩ := aopen_facts ho
        refine fun l5 => ⟨?_, ?_⟩
        · rintro ⟨_, h3⟩
          have h3 := h3.symm
          subst h3
          simp only [Option.getD_some]
          refine ⟨fun s i => 0 ≤ i ∧ i ≤ es.length ∧ (s = false → findE n (es.drop i.toNat) = some l), fun s i => (es.length - i).toNat, ?_, ?_⟩ <;> dsimp only
          · exact ⟨by omega, by omega, fun _ => hg⟩
          refine ⟨?_, ?_⟩
          · rintro i ⟨i0, i1, _⟩
            exact ⟨fun hlt => ⟨by omega, ⟨by omega, by omega, fun q => by cases q⟩, by omega⟩, fun _ => by trivial⟩
          · rintro i ⟨i0, i1, hI⟩
            have hI := hI rfl
            refine ⟨fun hlt => ?_, fun hge => by rw [find_end hge] at hI; cases hI⟩
            rw [find_step i0 hlt] at hI
            have he := LV_len (ent_at f1 i0 hlt).1
            refine ⟨i0, hlt, by omega, fun hn => ⟨i0, hlt, by omega, ⟨by omega, by omega⟩, fun _ => ⟨by omega, ⟨by omega, by omega, fun q => by cases q⟩, by omega⟩, fun q => ?_⟩, fun hn => ?_⟩
            · rw [if_pos hn] at hI
              have hq := q.symm
              rw [decide_eq_false_iff_not] at hq
              exact absurd (Option.some.inj hI) hq
            · rw [if_neg hn] at hI
              exact ⟨by omega, ⟨by omega, by omega, fun _ => hI⟩, by omega⟩
        · rintro ⟨q, _⟩; cases q
    · rintro ⟨q, _⟩; cases q
  · rintro ⟨q, _⟩; cases q
def S_l_FnArchiveGetNone : FSpec where
  args := [.sc (.sl .u8)]
  outs := [.sc .bool]
  pre := fun a => match a with
    | [.sc (.sl .u8 code)] => (((code).length : Nat) : Int) ≤ 9223372036854775807
    | _ => False
  post := fun a r => match a, r with
    | [.sc (.sl .u8 code)], [.sc (.bool r)] => r = true
    | _, _ => False
  kept := false
theorem m_l_FnArchiveGetNone : Meets Try.prog 22 S_l_FnArchiveGetNone :=
  meets tok mixed Try.func22 (by kernel_rfl) (l := [(27, S_i_ArchiveGet), (28, S_l_sameInts), (53, S_i_ArchiveOpen), (55, S_s_ArchiveGet), (59, S_s_DrawArchiveGet)]) ⟨m_i_ArchiveGet, m_l_sameInts, m_i_ArchiveOpen, m_s_ArchiveGet, m_s_DrawArchiveGet, trivial⟩ (ann := [(11, [.slot 11 .bool, .slot 12 .int])]) v_l_FnArchiveGetNone (by kernel_rfl)
theorem a_l_FnArchiveGetNone : LawOf Try.prog Try.f22.params.toList S_l_FnArchiveGetNone where
  args := by kernel_rfl
  outs := rfl
  pre := AKs.all_iff.1 (show AKs.all S_l_FnArchiveGetNone.args (fun ds => bnds ds → S_l_FnArchiveGetNone.pre ds) from fun x0 h => h.1)
  post := AKs.all_iff.1 (show AKs.all S_l_FnArchiveGetNone.args (fun ds => ∀ b, S_l_FnArchiveGetNone.post ds [.sc (.bool b)] → b = true) from fun x0 _ h => h)
set_option maxRecDepth 100000 in
theorem lifted_l_FnArchiveGetNone (os : Os) (started : os.Started) (H : Type) (enc : TypeId × Value → H) :
    ReturnsInHanded {} Try.checked os 22 .any (Rows.fnArchiveGetNoneSpec.pre6 enc Try.prog Try.f22 Rows.fnArchiveGetNoneRow.domain false) (Rows.fnArchiveGetNoneSpec.post enc Try.prog Try.f22 false true false false) :=
  law_lifted (C := Try.checked) (F := S_l_FnArchiveGetNone) (by kernel_rfl) started (by kernel_rfl) Try.func22
    (ChangeSpec.witness6 (enc := enc) (C := Try.checked) false ⟨#[], #[.slice none 0 0], []⟩ 8 (by kernel_rfl) (by kernel_rfl) (by kernel_rfl) (by kernel_rfl))
    m_l_FnArchiveGetNone a_l_FnArchiveGetNone (by kernel_rfl) (of_decide_eq_true (by kernel_rfl)) rfl (fun ds h => by match ds, h with | [d0], _ => rfl) (by kernel_rfl) Try.underlying4
theorem facts_FnArchiveGetNone : ∀ P : Program, P = Try.prog → P.initOrder.toList = ioNums.map Char.ofNat → joinedFacts P 22 Try.f22 Rows.fnArchiveGetNoneSpec Rows.fnArchiveGetNoneRow = true := by
  intro P hP h
  have h1 := io1 P hP h
  have h2 := io2 P hP h
  have h3 := io3 P hP h
  unfold joinedFacts
  rw [h1, h2, h3]
  subst hP
  show (_ : Bool) = true
  kernel_rfl
theorem proved_FnArchiveGetNone : Rows.FnArchiveGetNoneSaid :=
  OpenClaim.holds_of_wide 22 Try.f22 rfl rfl rfl rfl rfl rfl rfl ⟨rfl, rfl, rfl, rfl, rfl⟩ rfl rfl rfl rfl rfl (by kernel_rfl) Try.func22 (facts_FnArchiveGetNone _ rfl ioL)
    (of_decide_eq_true (by kernel_rfl)) (by unfold Func.isWrapper; first | (rw [if_pos (by decide +kernel)]; kernel_rfl) | (rw [if_neg (by decide +kernel)]; exact ⟨rfl, rfl⟩))
    (fun os started H enc _ => lifted_l_FnArchiveGetNone os started H enc)
end Go.Proofs.Ytmfamcaiimhaeaa
