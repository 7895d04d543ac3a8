/-
  FnPrefaceGain: for every input the law returns true, and each argument reads afterwards as it read before. No conditions.
-/
import Derived.Test.YthongcikinnjlaaRows
import Derived.Test.YthongcikinnjlaaT
import Derived.Test.YthongcikinnjlaaSa
import Derived.Test.YthongcikinnjlaaSb
import Derived.Test.YthongcikinnjlaaSg
import Derived.Test.YthongcikinnjlaaSh
set_option linter.unusedVariables false
set_option linter.unusedSimpArgs false
open Go Go.Ax Go.Mx Go.ChangeShapes Go.WideShapes Go.RowKit Go.ChangeAt
namespace Go.Proofs.Ythongcikinnjlaa
def V_l_FnPrefaceGain : Prop :=
  ∀ (l0 : List UInt8), (↑(List.length l0) : Int) ≤ 9223372036854775807 → (1048576 < (↑(List.length l0) : Int) → true = true) ∧ (¬1048576 < (↑(List.length l0) : Int) → (↑(List.length l0) : Int) ≤ 1099511627776 ∧ ∀ (l1 l2 : List Int),
    (↑(List.length l1) : Int) ≤ 400 ∧ (↑(List.length l2) : Int) ≤ 800 → ((↑(List.length l1) : Int) ≤ 10000000 ∧ (↑(List.length l2) : Int) ≤ 10000000) ∧ ∀ (n3 : Int), n3 = gainD l1 l2 → ((↑(List.length l1) : Int) ≤ 10000000 ∧ (↑(List.length l2) :
    Int) ≤ 10000000) ∧ ∀ (n4 : Int), n4 = gainD l1 l2 → (n3 ≠ n4 → (n3 = n4 → true = true) ∧ (¬n3 = n4 → false = true)) ∧ (¬n3 ≠ n4 → (↑(0 + List.length l1) : Int) ≤ 1099511627776 ∧ (↑(List.length l1 + List.length l2) : Int) ≤ 1099511627776 ∧
    (↑(List.length (l1 ++ l2)) : Int) ≤ 1099511627776 ∧ (true = LV (l1 ++ l2) → (16 < (↑(List.length l1) : Int) → (n3 = n4 → true = true) ∧ (¬n3 = n4 → false = true)) ∧ (¬16 < (↑(List.length l1) : Int) → ((↑(List.length l1) : Int) ≤ 10000000 ∧
    (↑(List.length l2) : Int) ≤ 10000000) ∧ ∀ (l5 : List (Int × Int × Int)), l5 = prefD l1 l2 ∧ (↑(List.length l5) : Int) ≤ 40 → ∃ (I6 : Int → Int → Prop), ∃ (m7 : Int → Int → Nat), I6 0 0 ∧ ∀ (n8 n9 : Int), I6 n8 n9 → (n9 < (↑(List.length l5) :
    Int) → 0 ≤ n9 ∧ n9 < (↑(List.length l5) : Int) ∧ Int.toNat n9 < List.length l5 ∧ (0 < Prod.fst (Prod.snd (List.getD l5 (Int.toNat n9) (0, 0, 0))) → (-9223372036854775808 ≤ n8 + 8 ∧ n8 + (8 : Int) ≤ 9223372036854775807) ∧ (-9223372036854775808 ≤ n9 +
    1 ∧ n9 + (1 : Int) ≤ 9223372036854775807) ∧ I6 (n8 + 8) (n9 + 1) ∧ m7 (n8 + 8) (n9 + 1) < m7 n8 n9) ∧ (¬0 < Prod.fst (Prod.snd (List.getD l5 (Int.toNat n9) (0, 0, 0))) → (-9223372036854775808 ≤ n8 + 4 ∧ n8 + (4 : Int) ≤ 9223372036854775807) ∧
    (-9223372036854775808 ≤ n9 + 1 ∧ n9 + (1 : Int) ≤ 9223372036854775807) ∧ I6 (n8 + 4) (n9 + 1) ∧ m7 (n8 + 4) (n9 + 1) < m7 n8 n9)) ∧ (¬n9 < (↑(List.length l5) : Int) → (↑(List.length l2) : Int) ≤ 1099511627776 ∧ ∀ (l10 : List (Int × Int × Int)), l10
    = greedyD l2 ∧ (↑(List.length l10) : Int) ≤ 40 → (↑(List.length l10) : Int) ≤ 1099511627776 ∧ ∀ (n11 : Int), (n11 = if Option.isSome (expand l10) = true then costOf l10 else -1) → (-9223372036854775808 ≤ n11 - n8 ∧ n11 - n8 ≤
    9223372036854775807) ∧ (n3 = n11 - n8 → true = true) ∧ (¬n3 = n11 - n8 → false = true)))) ∧ (false = LV (l1 ++ l2) → (n3 = n4 → true = true) ∧ (¬n3 = n4 → false = true))))
theorem v_l_FnPrefaceGain : V_l_FnPrefaceGain := by
  unfold V_l_FnPrefaceGain
  intro code hz
  refine ⟨fun _ => rfl, fun hc => ⟨by omega, ?_⟩⟩
  intro p l hb
  have hd := prefD_len p l
  have hlen : (p ++ l).length = p.length + l.length := List.length_append
  have hT := prefD_tidy2 p l
  have hg := greedyD_len l
  have hcb := cost_bd (prefD p l)
  have hcg := cost_bd (greedyD l)
  have hG : p.length ≤ 16 → true = LV (p ++ l) → gainD p l = costOf (greedyD l) - costOf (prefD p l) ∧ (expand (greedyD l)).isSome = true := fun h h' => by
    refine ⟨if_pos (prefOk_iff.2 ⟨h, LV_left h'.symm, h'.symm⟩), ?_⟩
    rw [greedyD_back (LV_right h'.symm)]; rfl
  refine ⟨by omega, ?_⟩
  rintro n3 rfl
  refine ⟨by omega, ?_⟩
  rintro n4 rfl
  refine ⟨fun h => absurd rfl h, fun _ => ⟨by omega, by omega, by omega, fun hv => ⟨fun h => ⟨fun _ => rfl, fun h => absurd rfl h⟩, fun h16 => ⟨by omega, ?_⟩⟩, fun _ => ⟨fun _ => rfl, fun h => absurd rfl h⟩⟩⟩
  rintro ts ⟨rfl, h40⟩
  obtain ⟨hG1, hG2⟩ := hG (by omega) hv
  rw [hG1]
  generalize prefD p l = ts at *
  refine ⟨fun n i => 0 ≤ i ∧ i ≤ ts.length ∧ 0 ≤ n ∧ n ≤ 8 * i ∧ n + costOf (ts.drop i.toNat) = costOf ts, fun n i => (ts.length - i).toNat, ?_, ?_⟩ <;> dsimp only
  · simp
  rintro n i ⟨i0, i1, n0, n1, hI⟩
  refine ⟨fun hlt => ?_, fun hge => ?_⟩
  · rw [cost_step i0 hlt] at hI
    have ht := tidy2_at hT i0 hlt
    refine ⟨by omega, by omega, by omega, fun h => ?_, fun h => ?_⟩
    · rw [if_neg (ht.1 h)] at hI
      exact ⟨by omega, by omega, ⟨by omega, by omega, by omega, by omega, by omega⟩, by omega⟩
    · rw [if_pos (by by_cases q : (ts.getD i.toNat (0, 0, 0)).2.2 = 0; exact q; exact absurd (ht.2 q) h)] at hI
      exact ⟨by omega, by omega, ⟨by omega, by omega, by omega, by omega, by omega⟩, by omega⟩
  · rw [cost_end hge] at hI
    refine ⟨by omega, ?_⟩
    rintro g ⟨rfl, hgl⟩
    refine ⟨by omega, ?_⟩
    rintro c rfl
    rw [if_pos hG2]
    exact ⟨by omega, fun _ => rfl, fun h => by omega⟩
def S_l_FnPrefaceGain : FSpec where
  args := [.sc (.sl .u8)]
  outs := [.sc .bool]
  pre := fun a => match a with
    | [.sc (.sl .u8 code)] => (((code).length : Nat) : Int) ≤ 9223372036854775807
    | _ => False
  post := fun a r => match a, r with
    | [.sc (.sl .u8 code)], [.sc (.bool r)] => r = true
    | _, _ => False
  kept := false
theorem m_l_FnPrefaceGain : Meets Try.prog 23 S_l_FnPrefaceGain :=
  meets tok mixed Try.func23 (by kernel_rfl) (l := [(46, S_s_ListValid), (50, S_s_PrefaceGain), (51, S_i_PrefaceGain), (53, S_i_PrefaceTokens), (67, S_i_TokensGreedy), (68, S_s_DrawPrefaceGain), (69, S_i_TokensCost)]) ⟨m_s_ListValid, m_s_PrefaceGain, m_i_PrefaceGain, m_i_PrefaceTokens, m_i_TokensGreedy, m_s_DrawPrefaceGain, m_i_TokensCost, trivial⟩ (ann := [(11, [.slot 7 .int, .slot 9 .int])]) v_l_FnPrefaceGain (by kernel_rfl)
theorem a_l_FnPrefaceGain : LawOf Try.prog Try.f23.params.toList S_l_FnPrefaceGain where
  args := by kernel_rfl
  outs := rfl
  pre := AKs.all_iff.1 (show AKs.all S_l_FnPrefaceGain.args (fun ds => bnds ds → S_l_FnPrefaceGain.pre ds) from fun x0 h => h.1)
  post := AKs.all_iff.1 (show AKs.all S_l_FnPrefaceGain.args (fun ds => ∀ b, S_l_FnPrefaceGain.post ds [.sc (.bool b)] → b = true) from fun x0 _ h => h)
set_option maxRecDepth 100000 in
theorem lifted_l_FnPrefaceGain (os : Os) (started : os.Started) (H : Type) (enc : TypeId × Value → H) :
    ReturnsInHanded {} Try.checked os 23 .any (Rows.fnPrefaceGainSpec.pre6 enc Try.prog Try.f23 Rows.fnPrefaceGainRow.domain false) (Rows.fnPrefaceGainSpec.post enc Try.prog Try.f23 false true false false) :=
  law_lifted (C := Try.checked) (F := S_l_FnPrefaceGain) (by kernel_rfl) started (by kernel_rfl) Try.func23
    (ChangeSpec.witness6 (enc := enc) (C := Try.checked) false ⟨#[], #[.slice none 0 0], []⟩ 8 (by kernel_rfl) (by kernel_rfl) (by kernel_rfl) (by kernel_rfl))
    m_l_FnPrefaceGain a_l_FnPrefaceGain (by kernel_rfl) (of_decide_eq_true (by kernel_rfl)) rfl (fun ds h => by match ds, h with | [d0], _ => rfl) (by kernel_rfl) Try.underlying4
theorem facts_FnPrefaceGain : ∀ P : Program, P = Try.prog → P.initOrder.toList = ioNums.map Char.ofNat → joinedFacts P 23 Try.f23 Rows.fnPrefaceGainSpec Rows.fnPrefaceGainRow = true := by
  intro P hP h
  have h1 := io1 P hP h
  have h2 := io2 P hP h
  have h3 := io3 P hP h
  unfold joinedFacts
  rw [h1, h2, h3]
  subst hP
  show (_ : Bool) = true
  kernel_rfl
theorem proved_FnPrefaceGain : Rows.FnPrefaceGainSaid :=
  OpenClaim.holds_of_wide 23 Try.f23 rfl rfl rfl rfl rfl rfl rfl ⟨rfl, rfl, rfl, rfl, rfl⟩ rfl rfl rfl rfl rfl (by kernel_rfl) Try.func23 (facts_FnPrefaceGain _ rfl ioL)
    (of_decide_eq_true (by kernel_rfl)) (by unfold Func.isWrapper; first | (rw [if_pos (by decide +kernel)]; kernel_rfl) | (rw [if_neg (by decide +kernel)]; exact ⟨rfl, rfl⟩))
    (fun os started H enc _ => lifted_l_FnPrefaceGain os started H enc)
end Go.Proofs.Ythongcikinnjlaa
