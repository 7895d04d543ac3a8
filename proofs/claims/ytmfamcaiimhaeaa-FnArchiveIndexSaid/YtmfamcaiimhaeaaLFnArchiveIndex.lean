/-
  FnArchiveIndex: for every input the law returns true, and each argument reads afterwards as it read before. No conditions.
-/
import Derived.Test.YtmfamcaiimhaeaaRows
import Derived.Test.YtmfamcaiimhaeaaT
import Derived.Test.YtmfamcaiimhaeaaSa
import Derived.Test.YtmfamcaiimhaeaaSb
import Derived.Test.YtmfamcaiimhaeaaSf
import Derived.Test.YtmfamcaiimhaeaaSg
import Derived.Test.YtmfamcaiimhaeaaSi
import Derived.Test.YtmfamcaiimhaeaaSj
import Derived.Test.YtmfamcaiimhaeaaSk
import Derived.Test.YtmfamcaiimhaeaaSl
import Derived.Test.YtmfamcaiimhaeaaSm
import Derived.Test.YtmfamcaiimhaeaaSn
import Derived.Test.YtmfamcaiimhaeaaSo
import Derived.Test.YtmfamcaiimhaeaaSp
import Derived.Test.YtmfamcaiimhaeaaSs
set_option linter.unusedVariables false
set_option linter.unusedSimpArgs false
open Go Go.Ax Go.Mx Go.ChangeShapes Go.WideShapes Go.RowKit Go.ChangeAt
namespace Go.Proofs.Ytmfamcaiimhaeaa
def V_l_FnArchiveIndex : Prop :=
  ∀ (l0 : List UInt8), (↑(List.length l0) : Int) ≤ (9223372036854775807 : Int) → (1048576 < (↑(List.length l0) : Int) → true = true) ∧ (¬1048576 < (↑(List.length l0) : Int) → (↑(List.length l0) : Int) ≤ 1099511627776 ∧ ∀ (l1 : List (Int × List Int)),
    (↑(List.length l1) : Int) ≤ 7 ∧ szE l1 ≤ 5000 → szE l1 ≤ 2000000 ∧ ∀ (l2 : List Int), (true = entOk l1 ∧ l2 = Option.getD (archD l1) [] → szE l1 ≤ 2000000 ∧ ∀ (l3 : List Int), (true = entOk l1 ∧ l3 = Option.getD (archD l1) [] →
    ((↑(List.length l2) : Int) ≤ 1099511627776 ∧ (↑(List.length l3) : Int) ≤ 1099511627776) ∧ (true = decide (l2 = l3) → ((-9223372036854775808 : Int) ≤ 2 * (↑(List.length l1) : Int) ∧ 2 * (↑(List.length l1) : Int) ≤ (9223372036854775807 : Int)) ∧
    ((-9223372036854775808 : Int) ≤ 1 + 2 * (↑(List.length l1) : Int) ∧ 1 + 2 * (↑(List.length l1) : Int) ≤ (9223372036854775807 : Int)) ∧ ∃ (I4 : Int → Int → Prop), ∃ (m5 : Int → Int → Nat), I4 (1 + 2 * (↑(List.length l1) : Int)) 0 ∧ ∀ (n6 n7 : Int), I4 n6 n7
    → (n7 < (↑(List.length l1) : Int) → ((-9223372036854775808 : Int) ≤ 2 * n7 ∧ 2 * n7 ≤ (9223372036854775807 : Int)) ∧ ((-9223372036854775808 : Int) ≤ 1 + 2 * n7 ∧ 1 + 2 * n7 ≤ (9223372036854775807 : Int)) ∧ (0 : Int) ≤ 1 + 2 * n7 ∧ 1 + 2 * n7 < (↑(List.length l2) : Int) ∧ Int.toNat
    (1 + 2 * n7) < List.length l2 ∧ 0 ≤ n7 ∧ n7 < (↑(List.length l1) : Int) ∧ Int.toNat n7 < List.length l1 ∧ (List.getD l2 (Int.toNat (1 + 2 * n7)) 0 ≠ Prod.fst (List.getD l1 (Int.toNat n7) (0, [])) → false = true) ∧ (¬List.getD l2 (Int.toNat
    (1 + 2 * n7)) 0 ≠ Prod.fst (List.getD l1 (Int.toNat n7) (0, [])) → ((-9223372036854775808 : Int) ≤ 2 * n7 ∧ 2 * n7 ≤ (9223372036854775807 : Int)) ∧ ((-9223372036854775808 : Int) ≤ 2 + 2 * n7 ∧ 2 + 2 * n7 ≤ (9223372036854775807 : Int)) ∧ (0 : Int) ≤ 2 + 2 * n7 ∧ 2 + 2 * n7 <
    (↑(List.length l2) : Int) ∧ Int.toNat (2 + 2 * n7) < List.length l2 ∧ 0 ≤ n7 ∧ n7 < (↑(List.length l1) : Int) ∧ Int.toNat n7 < List.length l1 ∧ (∃ (xs : List Int), xs = packB (Prod.snd (List.getD l1 (Int.toNat n7) (0, []))) ∧ (↑(List.length
    xs) : Int) ≤ 82) ∧ (↑(List.length (Prod.snd (List.getD l1 (Int.toNat n7) (0, [])))) : Int) ≤ 1099511627776 ∧ ∀ (l8 : List Int), l8 = packB (Prod.snd (List.getD l1 (Int.toNat n7) (0, []))) ∧ (↑(List.length l8) : Int) ≤ 82 → (List.getD l2
    (Int.toNat (2 + 2 * n7)) 0 ≠ (↑(List.length l8) : Int) → false = true) ∧ (¬List.getD l2 (Int.toNat (2 + 2 * n7)) 0 ≠ (↑(List.length l8) : Int) → ((-9223372036854775808 : Int) ≤ 2 * n7 ∧ 2 * n7 ≤ (9223372036854775807 : Int)) ∧ ((-9223372036854775808 : Int) ≤ 2 + 2 *
    n7 ∧ 2 + 2 * n7 ≤ (9223372036854775807 : Int)) ∧ (0 : Int) ≤ 2 + 2 * n7 ∧ 2 + 2 * n7 < (↑(List.length l2) : Int) ∧ Int.toNat (2 + 2 * n7) < List.length l2 ∧ (-9223372036854775808 ≤ n6 + List.getD l2 (Int.toNat (2 + 2 * n7)) 0 ∧ n6 + List.getD l2 (Int.toNat
    (2 + 2 * n7)) (0 : Int) ≤ (9223372036854775807 : Int)) ∧ (-9223372036854775808 ≤ n7 + 1 ∧ n7 + (1 : Int) ≤ (9223372036854775807 : Int)) ∧ I4 (n6 + List.getD l2 (Int.toNat (2 + 2 * n7)) 0) (n7 + 1) ∧ m5 (n6 + List.getD l2 (Int.toNat (2 + 2 * n7)) 0) (n7 + 1) < m5 n6 n7))) ∧
    (¬n7 < (↑(List.length l1) : Int) → (0 : Int) ≤ 0 ∧ 0 < (↑(List.length l2) : Int) ∧ Int.toNat 0 < List.length l2 ∧ (List.getD l2 (Int.toNat 0) 0 = (↑(List.length l1) : Int) → (n6 = (↑(List.length l2) : Int) → true = true) ∧ (¬n6 = (↑(List.length l2)
    : Int) → false = true)) ∧ (¬List.getD l2 (Int.toNat 0) 0 = (↑(List.length l1) : Int) → false = true))) ∧ (false = decide (l2 = l3) → ((↑(List.length l2) : Int) ≤ 1099511627776 ∧ (↑(List.length l3) : Int) ≤ 1099511627776) ∧ (true = decide (l2
    = l3) → true = true) ∧ (false = decide (l2 = l3) → false = true))) ∧ (false = entOk l1 ∧ l3 = Option.getD (archD l1) [] → false = true)) ∧ (false = entOk l1 ∧ l2 = Option.getD (archD l1) [] → szE l1 ≤ 2000000 ∧ ∀ (l9 : List Int), (true =
    entOk l1 ∧ l9 = Option.getD (archD l1) [] → false = true) ∧ (false = entOk l1 ∧ l9 = Option.getD (archD l1) [] → ((↑(List.length l2) : Int) ≤ 1099511627776 ∧ (↑(List.length l9) : Int) ≤ 1099511627776) ∧ (true = decide (l2 = l9) →
    ((↑(List.length l2) : Int) ≤ 1099511627776 ∧ (↑(List.length l9) : Int) ≤ 1099511627776) ∧ (true = decide (l2 = l9) → true = true) ∧ (false = decide (l2 = l9) → false = true)) ∧ (false = decide (l2 = l9) → ((↑(List.length l2) : Int) ≤
    1099511627776 ∧ (↑(List.length l9) : Int) ≤ 1099511627776) ∧ (true = decide (l2 = l9) → true = true) ∧ (false = decide (l2 = l9) → false = true)))))
theorem v_l_FnArchiveIndex : V_l_FnArchiveIndex := by
  unfold V_l_FnArchiveIndex
  intro code hz
  refine ⟨fun _ => rfl, fun hc => ⟨by omega, ?_⟩⟩
  rintro es ⟨h7, h5⟩
  have hl := archD_len es
  have no : entOk es = false → archD es = none := fun h => if_neg (by rw [h]; simp)
  cases hok : entOk es with
  | false =>
    rw [no hok] at hl ⊢
    repeat' (first | apply And.intro | (rintro _ rfl) | (rintro _ _ ⟨rfl, rfl⟩) | (intro (h : _ = _ ∧ _ = _); obtain ⟨_, rfl⟩ := h) | (intro _ (h : _ = _ ∧ _ ≤ _); obtain ⟨rfl, _⟩ := h) | intro _)
    all_goals (first | omega | with_reducible rfl | trivial | contradiction | (simp only [marks_len, marks3_len]; omega) | (rename_i h; simp [marks_len, marks3_len] at h; done) | (rename_i h; simp [marks_len, marks3_len] at h; omega) | (rename_i h _; simp at h; done) | (rename_i h _ _; simp at h; done) | grind)
  | true =>
  have hA : archD es = some (packE es) := if_pos hok
  have hO : aopenD (packE es) = some es := aopen_iff.2 hA
  rw [hA] at hl ⊢
  simp only [Option.getD_some] at hl ⊢
  refine ⟨by omega, fun l2 => ⟨?_, ?_⟩⟩
  · rintro ⟨_, rfl⟩
    refine ⟨by omega, fun l3 => ⟨?_, ?_⟩⟩
    · rintro ⟨_, rfl⟩
      refine ⟨⟨by omega, by omega⟩, fun _ => ⟨by omega, by omega, ?_⟩, fun q => by simp at q⟩
      have hlen : ((packE es).length : Int) = 1 + 2 * es.length + (blocksE es).length := by
        have := indexE_len es
        simp only [packE, List.length_cons, List.length_append]; omega
      refine ⟨fun n i => 0 ≤ i ∧ i ≤ es.length ∧ n = 1 + 2 * es.length + (blocksE (es.take i.toNat)).length, fun n i => (es.length - i).toNat, ?_, ?_⟩ <;> dsimp only
      · exact ⟨by omega, by omega, by simp [blocksE]⟩
      rintro n i ⟨i0, i1, rfl⟩
      refine ⟨fun hlt => ?_, fun hge => ⟨by omega, by omega, by omega, fun _ => ⟨fun _ => by trivial, fun q => ?_⟩, fun q => absurd rfl q⟩⟩
      · obtain ⟨g1, g2, g3⟩ := packE_get i0 hlt
        have hst := blocksE_lenStep i0 hlt
        have hbl := blocksE_len (es.take i.toNat)
        have htl := len_take (l := es) i0 i1
        have hp := (packB_len (es.getD i.toNat (0, [])).2).1
        have he := LV_len (ent_at hok i0 hlt).1
        rw [g1, g2]
        refine ⟨by omega, by omega, by omega, by omega, by omega, i0, hlt, by omega, fun q => absurd rfl q, fun _ => ⟨by omega, by omega, by omega, by omega, by omega, i0, hlt, by omega, ⟨_, rfl, by omega⟩, by omega, ?_⟩⟩
        rintro p ⟨rfl, _⟩
        exact ⟨fun q => absurd rfl q, fun _ => ⟨by omega, by omega, by omega, by omega, by omega, by omega, by omega, ⟨by omega, by omega, by omega⟩, by omega⟩⟩
      · rw [take_ge hge] at q
        exact absurd hlen.symm q
    · rintro ⟨q, _⟩; cases q
  · rintro ⟨q, _⟩; cases q
def S_l_FnArchiveIndex : FSpec where
  args := [.sc (.sl .u8)]
  outs := [.sc .bool]
  pre := fun a => match a with
    | [.sc (.sl .u8 code)] => (((code).length : Nat) : Int) ≤ 9223372036854775807
    | _ => False
  post := fun a r => match a, r with
    | [.sc (.sl .u8 code)], [.sc (.bool r)] => r = true
    | _, _ => False
  kept := false
theorem m_l_FnArchiveIndex : Meets Try.prog 14 S_l_FnArchiveIndex :=
  meets tok mixed Try.func14 (by kernel_rfl) (l := [(26, S_i_ArchivePack), (28, S_l_sameInts), (40, S_i_BlockPack), (47, S_s_DrawArchivePack), (48, S_s_ArchivePack)]) ⟨m_i_ArchivePack, m_l_sameInts, m_i_BlockPack, m_s_DrawArchivePack, m_s_ArchivePack, trivial⟩ (ann := [(10, [.slot 8 .int, .slot 9 .int])]) v_l_FnArchiveIndex (by kernel_rfl)
theorem a_l_FnArchiveIndex : LawOf Try.prog Try.f14.params.toList S_l_FnArchiveIndex where
  args := by kernel_rfl
  outs := rfl
  pre := AKs.all_iff.1 (show AKs.all S_l_FnArchiveIndex.args (fun ds => bnds ds → S_l_FnArchiveIndex.pre ds) from fun x0 h => h.1)
  post := AKs.all_iff.1 (show AKs.all S_l_FnArchiveIndex.args (fun ds => ∀ b, S_l_FnArchiveIndex.post ds [.sc (.bool b)] → b = true) from fun x0 _ h => h)
set_option maxRecDepth 100000 in
theorem lifted_l_FnArchiveIndex (os : Os) (started : os.Started) (H : Type) (enc : TypeId × Value → H) :
    ReturnsInHanded {} Try.checked os 14 .any (Rows.fnArchiveIndexSpec.pre6 enc Try.prog Try.f14 Rows.fnArchiveIndexRow.domain false) (Rows.fnArchiveIndexSpec.post enc Try.prog Try.f14 false true false false) :=
  law_lifted (C := Try.checked) (F := S_l_FnArchiveIndex) (by kernel_rfl) started (by kernel_rfl) Try.func14
    (ChangeSpec.witness6 (enc := enc) (C := Try.checked) false ⟨#[], #[.slice none 0 0], []⟩ 8 (by kernel_rfl) (by kernel_rfl) (by kernel_rfl) (by kernel_rfl))
    m_l_FnArchiveIndex a_l_FnArchiveIndex (by kernel_rfl) (of_decide_eq_true (by kernel_rfl)) rfl (fun ds h => by match ds, h with | [d0], _ => rfl) (by kernel_rfl) Try.underlying4
theorem facts_FnArchiveIndex : ∀ P : Program, P = Try.prog → P.initOrder.toList = ioNums.map Char.ofNat → joinedFacts P 14 Try.f14 Rows.fnArchiveIndexSpec Rows.fnArchiveIndexRow = true := by
  intro P hP h
  have h1 := io1 P hP h
  have h2 := io2 P hP h
  have h3 := io3 P hP h
  unfold joinedFacts
  rw [h1, h2, h3]
  subst hP
  show (_ : Bool) = true
  kernel_rfl
theorem proved_FnArchiveIndex : Rows.FnArchiveIndexSaid :=
  OpenClaim.holds_of_wide 14 Try.f14 rfl rfl rfl rfl rfl rfl rfl ⟨rfl, rfl, rfl, rfl, rfl⟩ rfl rfl rfl rfl rfl (by kernel_rfl) Try.func14 (facts_FnArchiveIndex _ rfl ioL)
    (of_decide_eq_true (by kernel_rfl)) (by unfold Func.isWrapper; first | (rw [if_pos (by decide +kernel)]; kernel_rfl) | (rw [if_neg (by decide +kernel)]; exact ⟨rfl, rfl⟩))
    (fun os started H enc _ => lifted_l_FnArchiveIndex os started H enc)
end Go.Proofs.Ytmfamcaiimhaeaa
