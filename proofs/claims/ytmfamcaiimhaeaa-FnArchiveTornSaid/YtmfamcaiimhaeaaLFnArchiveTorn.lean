/-
  FnArchiveTorn: for every input the law returns true, and each argument reads afterwards as it read before. No conditions.
-/
import Derived.Test.YtmfamcaiimhaeaaRows
import Derived.Test.YtmfamcaiimhaeaaT
import Derived.Test.YtmfamcaiimhaeaaSa
import Derived.Test.YtmfamcaiimhaeaaSb
import Derived.Test.YtmfamcaiimhaeaaSf
import Derived.Test.YtmfamcaiimhaeaaSg
import Derived.Test.YtmfamcaiimhaeaaSi
import Derived.Test.YtmfamcaiimhaeaaSj
import Derived.Test.YtmfamcaiimhaeaaSk
import Derived.Test.YtmfamcaiimhaeaaSl
import Derived.Test.YtmfamcaiimhaeaaSm
import Derived.Test.YtmfamcaiimhaeaaSn
import Derived.Test.YtmfamcaiimhaeaaSo
import Derived.Test.YtmfamcaiimhaeaaSp
import Derived.Test.YtmfamcaiimhaeaaSr
import Derived.Test.YtmfamcaiimhaeaaSs
set_option linter.unusedVariables false
set_option linter.unusedSimpArgs false
open Go Go.Ax Go.Mx Go.ChangeShapes Go.WideShapes Go.RowKit Go.ChangeAt
namespace Go.Proofs.Ytmfamcaiimhaeaa
def V_l_FnArchiveTorn : Prop :=
  ∀ (l0 l1 : List UInt8), (↑(List.length l0) : Int) ≤ (9223372036854775807 : Int) ∧ (↑(List.length l1) : Int) ≤ (9223372036854775807 : Int) → (1048576 < (↑(List.length l0) : Int) → true = true) ∧ (¬1048576 < (↑(List.length l0) : Int) → (1048576 <
    (↑(List.length l1) : Int) → true = true) ∧ (¬1048576 < (↑(List.length l1) : Int) → (↑(List.length l0) : Int) ≤ 1099511627776 ∧ ∀ (l2 : List Int), (↑(List.length l2) : Int) ≤ 5001 → (↑(List.length l2) : Int) ≤ 1099511627776 ∧ ∀ (l3 : List
    (Int × List Int)), (true = Option.isSome (aopenD l2) ∧ l3 = Option.getD (aopenD l2) [] → (↑(List.length l2) : Int) ≤ 1099511627776 ∧ ∀ (l4 : List (Int × List Int)), (true = Option.isSome (aopenD l2) ∧ l4 = Option.getD (aopenD l2) [] → (szE
    l3 ≤ 2000000 ∧ szE l4 ≤ 2000000) ∧ (true = decide (l3 = l4) → (-9223372036854775808 ≤ (↑(List.length l2) : Int) - 1 ∧ (↑(List.length l2) : Int) - (1 : Int) ≤ (9223372036854775807 : Int)) ∧ 0 ≤ (↑(List.length l2) : Int) - 1 ∧ (↑(List.length l2) : Int) - 1 ≤
    (↑(List.length l2) : Int) ∧ (↑(List.length (List.take (Int.toNat ((↑(List.length l2) : Int) - 1)) l2)) : Int) ≤ 1099511627776 ∧ ∀ (l5 : List (Int × List Int)), (true = Option.isSome (aopenD (List.take (Int.toNat ((↑(List.length l2) : Int) -
    1)) l2)) ∧ l5 = Option.getD (aopenD (List.take (Int.toNat ((↑(List.length l2) : Int) - 1)) l2)) [] → (↑(0 + List.length l2) : Int) ≤ 1099511627776 ∧ 0 ≤ (↑(List.length l1) : Int) ∧ (0 : Int) < 256 ∧ (↑(List.length l2 + List.length [(↑(List.length
    l1) : Int) % 256]) : Int) ≤ 1099511627776 ∧ (↑(List.length (l2 ++ [(↑(List.length l1) : Int) % 256])) : Int) ≤ 1099511627776 ∧ ∀ (l6 : List (Int × List Int)), (true = Option.isSome (aopenD (l2 ++ [(↑(List.length l1) : Int) % 256])) ∧ l6 =
    Option.getD (aopenD (l2 ++ [(↑(List.length l1) : Int) % 256])) [] → false = true) ∧ (false = Option.isSome (aopenD (l2 ++ [(↑(List.length l1) : Int) % 256])) ∧ l6 = Option.getD (aopenD (l2 ++ [(↑(List.length l1) : Int) % 256])) [] → false =
    true)) ∧ (false = Option.isSome (aopenD (List.take (Int.toNat ((↑(List.length l2) : Int) - 1)) l2)) ∧ l5 = Option.getD (aopenD (List.take (Int.toNat ((↑(List.length l2) : Int) - 1)) l2)) [] → (↑(0 + List.length l2) : Int) ≤ 1099511627776 ∧ 0
    ≤ (↑(List.length l1) : Int) ∧ (0 : Int) < 256 ∧ (↑(List.length l2 + List.length [(↑(List.length l1) : Int) % 256]) : Int) ≤ 1099511627776 ∧ (↑(List.length (l2 ++ [(↑(List.length l1) : Int) % 256])) : Int) ≤ 1099511627776 ∧ ∀ (l7 : List (Int × List
    Int)), (true = Option.isSome (aopenD (l2 ++ [(↑(List.length l1) : Int) % 256])) ∧ l7 = Option.getD (aopenD (l2 ++ [(↑(List.length l1) : Int) % 256])) [] → false = true) ∧ (false = Option.isSome (aopenD (l2 ++ [(↑(List.length l1) : Int) %
    256])) ∧ l7 = Option.getD (aopenD (l2 ++ [(↑(List.length l1) : Int) % 256])) [] → true = true))) ∧ (false = decide (l3 = l4) → (szE l3 ≤ 2000000 ∧ szE l4 ≤ 2000000) ∧ (true = decide (l3 = l4) → true = true) ∧ (false = decide (l3 = l4) →
    false = true))) ∧ (false = Option.isSome (aopenD l2) ∧ l4 = Option.getD (aopenD l2) [] → false = true)) ∧ (false = Option.isSome (aopenD l2) ∧ l3 = Option.getD (aopenD l2) [] → (↑(List.length l2) : Int) ≤ 1099511627776 ∧ ∀ (l8 : List (Int ×
    List Int)), (true = Option.isSome (aopenD l2) ∧ l8 = Option.getD (aopenD l2) [] → false = true) ∧ (false = Option.isSome (aopenD l2) ∧ l8 = Option.getD (aopenD l2) [] → (szE l3 ≤ 2000000 ∧ szE l8 ≤ 2000000) ∧ (true = decide (l3 = l8) → (szE
    l3 ≤ 2000000 ∧ szE l8 ≤ 2000000) ∧ (true = decide (l3 = l8) → true = true) ∧ (false = decide (l3 = l8) → false = true)) ∧ (false = decide (l3 = l8) → (szE l3 ≤ 2000000 ∧ szE l8 ≤ 2000000) ∧ (true = decide (l3 = l8) → true = true) ∧ (false =
    decide (l3 = l8) → false = true))))))
theorem v_l_FnArchiveTorn : V_l_FnArchiveTorn := by
  unfold V_l_FnArchiveTorn
  rintro code more ⟨hz, hz'⟩
  refine ⟨fun _ => rfl, fun hc => ⟨fun _ => rfl, fun hm => ⟨by omega, ?_⟩⟩⟩
  intro b hb
  refine ⟨by omega, ?_⟩
  cases ho : aopenD b with
  | none =>
    repeat' (first | apply And.intro | (rintro _ rfl) | (rintro _ _ ⟨rfl, rfl⟩) | (intro (h : _ = _ ∧ _ = _); obtain ⟨_, rfl⟩ := h) | (intro _ (h : _ = _ ∧ _ ≤ _); obtain ⟨rfl, _⟩ := h) | intro _)
    all_goals (first | omega | with_reducible rfl | trivial | contradiction | (simp only [marks_len, marks3_len]; omega) | (rename_i h; simp [marks_len, marks3_len] at h; done) | (rename_i h; simp [marks_len, marks3_len] at h; omega) | (rename_i h _; simp at h; done) | (rename_i h _ _; simp at h; done) | grind)
  | some es =>
    obtain ⟨f1, f2, f3, f4, f5⟩ := aopen_facts ho
    have hA : archD es = some b := aopen_iff.1 ho
    obtain ⟨t1, t2⟩ := arch_torn hA ((more.length : Int) % 256)
    have hb0 : 0 < b.length := by rw [← f2]; simp [packE]
    have hd : b.take ((b.length : Int) - 1).toNat = b.dropLast := by rw [List.dropLast_eq_take]; congr 1; omega
    have hdl : b.dropLast.length ≤ 5001 := by simp; omega
    rw [hd, t1, t2]
    refine fun l3 => ⟨?_, ?_⟩
    · rintro ⟨_, rfl⟩
      refine ⟨by omega, fun l4 => ⟨?_, ?_⟩⟩
      · rintro ⟨_, rfl⟩
        simp only [Option.getD_some]
        refine ⟨⟨by omega, by omega⟩, fun _ => ⟨by omega, by omega, by omega, by omega, fun l5 => ⟨?_, ?_⟩⟩, fun q => by simp at q⟩
        · rintro ⟨q, _⟩; cases q
        · rintro ⟨_, rfl⟩
          refine ⟨by omega, by omega, by omega, by simp only [List.length_cons, List.length_nil]; omega, by rw [List.length_append]; simp only [List.length_cons, List.length_nil]; omega, fun l6 => ⟨?_, fun _ => by trivial⟩⟩
          rintro ⟨q, _⟩; cases q
      · rintro ⟨q, _⟩; cases q
    · rintro ⟨q, _⟩; cases q
def S_l_FnArchiveTorn : FSpec where
  args := [.sc (.sl .u8), .sc (.sl .u8)]
  outs := [.sc .bool]
  pre := fun a => match a with
    | [.sc (.sl .u8 code), .sc (.sl .u8 more)] => (((code).length : Nat) : Int) ≤ 9223372036854775807 ∧ (((more).length : Nat) : Int) ≤ 9223372036854775807
    | _ => False
  post := fun a r => match a, r with
    | [.sc (.sl .u8 code), .sc (.sl .u8 more)], [.sc (.bool r)] => r = true
    | _, _ => False
  kept := false
theorem m_l_FnArchiveTorn : Meets Try.prog 21 S_l_FnArchiveTorn :=
  meets tok mixed Try.func21 (by kernel_rfl) (l := [(53, S_i_ArchiveOpen), (54, S_l_sameEntries), (56, S_s_ArchiveOpen), (58, S_s_DrawArchiveOpen)]) ⟨m_i_ArchiveOpen, m_l_sameEntries, m_s_ArchiveOpen, m_s_DrawArchiveOpen, trivial⟩ (ann := []) v_l_FnArchiveTorn (by kernel_rfl)
theorem a_l_FnArchiveTorn : LawOf Try.prog Try.f21.params.toList S_l_FnArchiveTorn where
  args := by kernel_rfl
  outs := rfl
  pre := AKs.all_iff.1 (show AKs.all S_l_FnArchiveTorn.args (fun ds => bnds ds → S_l_FnArchiveTorn.pre ds) from fun x0 x1 h => ⟨h.1, h.2.1⟩)
  post := AKs.all_iff.1 (show AKs.all S_l_FnArchiveTorn.args (fun ds => ∀ b, S_l_FnArchiveTorn.post ds [.sc (.bool b)] → b = true) from fun x0 x1 _ h => h)
set_option maxRecDepth 100000 in
theorem lifted_l_FnArchiveTorn (os : Os) (started : os.Started) (H : Type) (enc : TypeId × Value → H) :
    ReturnsInHanded {} Try.checked os 21 .any (Rows.fnArchiveTornSpec.pre6 enc Try.prog Try.f21 Rows.fnArchiveTornRow.domain false) (Rows.fnArchiveTornSpec.post enc Try.prog Try.f21 false true false false) :=
  law_lifted (C := Try.checked) (F := S_l_FnArchiveTorn) (by kernel_rfl) started (by kernel_rfl) Try.func21
    (ChangeSpec.witness6 (enc := enc) (C := Try.checked) false ⟨#[], #[.slice none 0 0, .slice none 0 0], []⟩ 8 (by kernel_rfl) (by kernel_rfl) (by kernel_rfl) (by kernel_rfl))
    m_l_FnArchiveTorn a_l_FnArchiveTorn (by kernel_rfl) (of_decide_eq_true (by kernel_rfl)) rfl (fun ds h => by match ds, h with | [d0, d1], _ => rfl) (by kernel_rfl) Try.underlying4
theorem facts_FnArchiveTorn : ∀ P : Program, P = Try.prog → P.initOrder.toList = ioNums.map Char.ofNat → joinedFacts P 21 Try.f21 Rows.fnArchiveTornSpec Rows.fnArchiveTornRow = true := by
  intro P hP h
  have h1 := io1 P hP h
  have h2 := io2 P hP h
  have h3 := io3 P hP h
  unfold joinedFacts
  rw [h1, h2, h3]
  subst hP
  show (_ : Bool) = true
  kernel_rfl
theorem proved_FnArchiveTorn : Rows.FnArchiveTornSaid :=
  OpenClaim.holds_of_wide 21 Try.f21 rfl rfl rfl rfl rfl rfl rfl ⟨rfl, rfl, rfl, rfl, rfl⟩ rfl rfl rfl rfl rfl (by kernel_rfl) Try.func21 (facts_FnArchiveTorn _ rfl ioL)
    (of_decide_eq_true (by kernel_rfl)) (by unfold Func.isWrapper; first | (rw [if_pos (by decide +kernel)]; kernel_rfl) | (rw [if_neg (by decide +kernel)]; exact ⟨rfl, rfl⟩))
    (fun os started H enc _ => lifted_l_FnArchiveTorn os started H enc)
end Go.Proofs.Ytmfamcaiimhaeaa
