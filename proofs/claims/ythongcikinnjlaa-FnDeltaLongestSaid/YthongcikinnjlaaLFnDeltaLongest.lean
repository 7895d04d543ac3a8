/-
  FnDeltaLongest: for every input the law returns true, and each argument reads afterwards as it read before. No conditions.
-/
import Derived.Test.YthongcikinnjlaaRows
import Derived.Test.YthongcikinnjlaaT
import Derived.Test.YthongcikinnjlaaSa
import Derived.Test.YthongcikinnjlaaSb
import Derived.Test.YthongcikinnjlaaSc
import Derived.Test.YthongcikinnjlaaSd
set_option linter.unusedVariables false
set_option linter.unusedSimpArgs false
open Go Go.Ax Go.Mx Go.ChangeShapes Go.WideShapes Go.RowKit Go.ChangeAt
namespace Go.Proofs.Ythongcikinnjlaa
def V_l_FnDeltaLongest : Prop :=
  ∀ (l0 : List UInt8), (↑(List.length l0) : Int) ≤ 9223372036854775807 → (1048576 < (↑(List.length l0) : Int) → true = true) ∧ (¬1048576 < (↑(List.length l0) : Int) → (↑(List.length l0) : Int) ≤ 1099511627776 ∧ ∀ (l1 l2 : List Int),
    (↑(List.length l1) : Int) ≤ 400 ∧ (↑(List.length l2) : Int) ≤ 400 → ((↑(List.length l1) : Int) ≤ 1099511627776 ∧ (↑(List.length l2) : Int) ≤ 1099511627776) ∧ ∀ (l3 : List (Int × Int × Int)), l3 = deltaD l1 l2 ∧ (↑(List.length l3) : Int) ≤ 40
    → ((↑(List.length l1) : Int) ≤ 1099511627776 ∧ (↑(List.length l2) : Int) ≤ 1099511627776) ∧ ∀ (l4 : List (Int × Int × Int)), l4 = deltaD l1 l2 ∧ (↑(List.length l4) : Int) ≤ 40 → ((↑(List.length l3) : Int) ≤ 1099511627776 ∧ (↑(List.length l4)
    : Int) ≤ 1099511627776) ∧ (true = decide (l3 = l4) → (↑(List.length l1) : Int) ≤ 1099511627776 ∧ (true = LV l1 → (↑(List.length l2) : Int) ≤ 1099511627776 ∧ (true = LV l2 → ∃ (I5 : Int → Int → Prop), ∃ (m6 : Int → Int → Nat), I5 0 0 ∧ ∀ (n7
    n8 : Int), I5 n7 n8 → (n8 < (↑(List.length l3) : Int) → ∃ (I9 : Int → Prop), ∃ (m10 : Int → Nat), I9 0 ∧ ∀ (n11 : Int), I9 n11 → (n11 < (↑(List.length l1) : Int) → ∃ (I12 : Int → Prop), ∃ (m13 : Int → Nat), I12 0 ∧ ∀ (n14 : Int), I12 n14 →
    (-9223372036854775808 ≤ n11 + n14 ∧ n11 + n14 ≤ 9223372036854775807) ∧ (n11 + n14 < (↑(List.length l1) : Int) → (-9223372036854775808 ≤ n7 + n14 ∧ n7 + n14 ≤ 9223372036854775807) ∧ (n7 + n14 < (↑(List.length l2) : Int) →
    (-9223372036854775808 ≤ n11 + n14 ∧ n11 + n14 ≤ 9223372036854775807) ∧ 0 ≤ n11 + n14 ∧ n11 + n14 < (↑(List.length l1) : Int) ∧ Int.toNat (n11 + n14) < List.length l1 ∧ (-9223372036854775808 ≤ n7 + n14 ∧ n7 + n14 ≤ 9223372036854775807) ∧ 0 ≤
    n7 + n14 ∧ n7 + n14 < (↑(List.length l2) : Int) ∧ Int.toNat (n7 + n14) < List.length l2 ∧ (List.getD l1 (Int.toNat (n11 + n14)) 0 = List.getD l2 (Int.toNat (n7 + n14)) 0 → (-9223372036854775808 ≤ n14 + 1 ∧ n14 + (1 : Int) ≤ 9223372036854775807) ∧
    I12 (n14 + 1) ∧ m13 (n14 + 1) < m13 n14) ∧ (¬List.getD l1 (Int.toNat (n11 + n14)) 0 = List.getD l2 (Int.toNat (n7 + n14)) 0 → 0 ≤ n8 ∧ n8 < (↑(List.length l3) : Int) ∧ Int.toNat n8 < List.length l3 ∧ ¬max (Prod.snd (Prod.snd (List.getD l3
    (Int.toNat n8) (0, 0, 0)))) 1 < n14 ∧ (¬max (Prod.snd (Prod.snd (List.getD l3 (Int.toNat n8) (0, 0, 0)))) 1 < n14 → 0 ≤ n8 ∧ n8 < (↑(List.length l3) : Int) ∧ Int.toNat n8 < List.length l3 ∧ (0 < Prod.snd (Prod.snd (List.getD l3 (Int.toNat
    n8) (0, 0, 0))) → 0 ≤ n8 ∧ n8 < (↑(List.length l3) : Int) ∧ Int.toNat n8 < List.length l3 ∧ (n14 = Prod.snd (Prod.snd (List.getD l3 (Int.toNat n8) (0, 0, 0))) → 0 ≤ n8 ∧ n8 < (↑(List.length l3) : Int) ∧ Int.toNat n8 < List.length l3 ∧ (n11 <
    Prod.fst (Prod.snd (List.getD l3 (Int.toNat n8) (0, 0, 0))) → false = true) ∧ (¬n11 < Prod.fst (Prod.snd (List.getD l3 (Int.toNat n8) (0, 0, 0))) → (-9223372036854775808 ≤ n11 + 1 ∧ n11 + (1 : Int) ≤ 9223372036854775807) ∧ I9 (n11 + 1) ∧ m10 (n11 +
    1) < m10 n11)) ∧ (¬n14 = Prod.snd (Prod.snd (List.getD l3 (Int.toNat n8) (0, 0, 0))) → (-9223372036854775808 ≤ n11 + 1 ∧ n11 + (1 : Int) ≤ 9223372036854775807) ∧ I9 (n11 + 1) ∧ m10 (n11 + 1) < m10 n11)) ∧ (¬0 < Prod.snd (Prod.snd (List.getD l3
    (Int.toNat n8) (0, 0, 0))) → (-9223372036854775808 ≤ n11 + 1 ∧ n11 + (1 : Int) ≤ 9223372036854775807) ∧ I9 (n11 + 1) ∧ m10 (n11 + 1) < m10 n11)))) ∧ (¬n7 + n14 < (↑(List.length l2) : Int) → 0 ≤ n8 ∧ n8 < (↑(List.length l3) : Int) ∧ Int.toNat n8 <
    List.length l3 ∧ ¬max (Prod.snd (Prod.snd (List.getD l3 (Int.toNat n8) (0, 0, 0)))) 1 < n14 ∧ (¬max (Prod.snd (Prod.snd (List.getD l3 (Int.toNat n8) (0, 0, 0)))) 1 < n14 → 0 ≤ n8 ∧ n8 < (↑(List.length l3) : Int) ∧ Int.toNat n8 < List.length
    l3 ∧ (0 < Prod.snd (Prod.snd (List.getD l3 (Int.toNat n8) (0, 0, 0))) → 0 ≤ n8 ∧ n8 < (↑(List.length l3) : Int) ∧ Int.toNat n8 < List.length l3 ∧ (n14 = Prod.snd (Prod.snd (List.getD l3 (Int.toNat n8) (0, 0, 0))) → 0 ≤ n8 ∧ n8 <
    (↑(List.length l3) : Int) ∧ Int.toNat n8 < List.length l3 ∧ (n11 < Prod.fst (Prod.snd (List.getD l3 (Int.toNat n8) (0, 0, 0))) → false = true) ∧ (¬n11 < Prod.fst (Prod.snd (List.getD l3 (Int.toNat n8) (0, 0, 0))) → (-9223372036854775808 ≤
    n11 + 1 ∧ n11 + (1 : Int) ≤ 9223372036854775807) ∧ I9 (n11 + 1) ∧ m10 (n11 + 1) < m10 n11)) ∧ (¬n14 = Prod.snd (Prod.snd (List.getD l3 (Int.toNat n8) (0, 0, 0))) → (-9223372036854775808 ≤ n11 + 1 ∧ n11 + (1 : Int) ≤ 9223372036854775807) ∧ I9 (n11 + 1) ∧ m10
    (n11 + 1) < m10 n11)) ∧ (¬0 < Prod.snd (Prod.snd (List.getD l3 (Int.toNat n8) (0, 0, 0))) → (-9223372036854775808 ≤ n11 + 1 ∧ n11 + (1 : Int) ≤ 9223372036854775807) ∧ I9 (n11 + 1) ∧ m10 (n11 + 1) < m10 n11)))) ∧ (¬n11 + n14 < (↑(List.length l1) :
    Int) → 0 ≤ n8 ∧ n8 < (↑(List.length l3) : Int) ∧ Int.toNat n8 < List.length l3 ∧ ¬max (Prod.snd (Prod.snd (List.getD l3 (Int.toNat n8) (0, 0, 0)))) 1 < n14 ∧ (¬max (Prod.snd (Prod.snd (List.getD l3 (Int.toNat n8) (0, 0, 0)))) 1 < n14 → 0 ≤
    n8 ∧ n8 < (↑(List.length l3) : Int) ∧ Int.toNat n8 < List.length l3 ∧ (0 < Prod.snd (Prod.snd (List.getD l3 (Int.toNat n8) (0, 0, 0))) → 0 ≤ n8 ∧ n8 < (↑(List.length l3) : Int) ∧ Int.toNat n8 < List.length l3 ∧ (n14 = Prod.snd (Prod.snd
    (List.getD l3 (Int.toNat n8) (0, 0, 0))) → 0 ≤ n8 ∧ n8 < (↑(List.length l3) : Int) ∧ Int.toNat n8 < List.length l3 ∧ (n11 < Prod.fst (Prod.snd (List.getD l3 (Int.toNat n8) (0, 0, 0))) → false = true) ∧ (¬n11 < Prod.fst (Prod.snd (List.getD
    l3 (Int.toNat n8) (0, 0, 0))) → (-9223372036854775808 ≤ n11 + 1 ∧ n11 + (1 : Int) ≤ 9223372036854775807) ∧ I9 (n11 + 1) ∧ m10 (n11 + 1) < m10 n11)) ∧ (¬n14 = Prod.snd (Prod.snd (List.getD l3 (Int.toNat n8) (0, 0, 0))) → (-9223372036854775808 ≤ n11 +
    1 ∧ n11 + (1 : Int) ≤ 9223372036854775807) ∧ I9 (n11 + 1) ∧ m10 (n11 + 1) < m10 n11)) ∧ (¬0 < Prod.snd (Prod.snd (List.getD l3 (Int.toNat n8) (0, 0, 0))) → (-9223372036854775808 ≤ n11 + 1 ∧ n11 + (1 : Int) ≤ 9223372036854775807) ∧ I9 (n11 + 1) ∧ m10 (n11 +
    1) < m10 n11)))) ∧ (¬n11 < (↑(List.length l1) : Int) → 0 ≤ n8 ∧ n8 < (↑(List.length l3) : Int) ∧ Int.toNat n8 < List.length l3 ∧ (-9223372036854775808 ≤ n7 + max (Prod.snd (Prod.snd (List.getD l3 (Int.toNat n8) (0, 0, 0)))) 1 ∧ n7 + max
    (Prod.snd (Prod.snd (List.getD l3 (Int.toNat n8) (0, 0, 0)))) (1 : Int) ≤ 9223372036854775807) ∧ (-9223372036854775808 ≤ n8 + 1 ∧ n8 + (1 : Int) ≤ 9223372036854775807) ∧ I5 (n7 + max (Prod.snd (Prod.snd (List.getD l3 (Int.toNat n8) (0, 0, 0)))) 1) (n8 + 1)
    ∧ m6 (n7 + max (Prod.snd (Prod.snd (List.getD l3 (Int.toNat n8) (0, 0, 0)))) 1) (n8 + 1) < m6 n7 n8)) ∧ (¬n8 < (↑(List.length l3) : Int) → (n7 = (↑(List.length l2) : Int) → true = true) ∧ (¬n7 = (↑(List.length l2) : Int) → false = true))) ∧
    (false = LV l2 → ((↑(List.length l3) : Int) ≤ 1099511627776 ∧ (↑(List.length l4) : Int) ≤ 1099511627776) ∧ (true = decide (l3 = l4) → true = true) ∧ (false = decide (l3 = l4) → false = true))) ∧ (false = LV l1 → ((↑(List.length l3) : Int) ≤
    1099511627776 ∧ (↑(List.length l4) : Int) ≤ 1099511627776) ∧ (true = decide (l3 = l4) → true = true) ∧ (false = decide (l3 = l4) → false = true))) ∧ (false = decide (l3 = l4) → ((↑(List.length l3) : Int) ≤ 1099511627776 ∧ (↑(List.length l4)
    : Int) ≤ 1099511627776) ∧ (true = decide (l3 = l4) → true = true) ∧ (false = decide (l3 = l4) → false = true)))
theorem v_l_FnDeltaLongest : V_l_FnDeltaLongest := by
  unfold V_l_FnDeltaLongest
  intro code hz
  refine ⟨fun _ => rfl, fun hc => ⟨by omega, ?_⟩⟩
  intro old list hb
  repeat' (first | apply And.intro | (rintro _ rfl) | (rintro _ _ ⟨rfl, rfl⟩) | (intro (h : _ = _ ∧ _ = _); obtain ⟨_, rfl⟩ := h) | (intro _ (h : _ = _ ∧ _ ≤ _); obtain ⟨rfl, _⟩ := h) | intro _)
  all_goals try (first | omega | with_reducible rfl | (simp only [marks_len, marks3_len]; omega) | (rename_i h; simp [marks_len, marks3_len] at h; done) | (rename_i h; simp [marks_len, marks3_len] at h; omega) | grind)
  have hv : true = LV old := by assumption
  have hv' : true = LV list := by assumption
  have hD : deltaD old list = deltaOf old list := by unfold deltaD; rw [if_pos ⟨hv.symm, hv'.symm⟩]
  have hdl := deltaD_len old list
  have hll := LV_len hv'.symm
  have hol := LV_len hv.symm
  generalize deltaD old list = D at *
  clear hv hv' hz hc hb
  refine ⟨fun a i => 0 ≤ a ∧ a ≤ list.length ∧ 0 ≤ i ∧ i ≤ D.length ∧ D.drop i.toNat = deltaOf old (list.drop a.toNat), fun a i => (D.length - i).toNat, ?_, ?_⟩ <;> dsimp only
  · simp [hD]
  rintro a i ⟨a0, a1, i0, i1, hI⟩
  refine ⟨fun hlt => ?_, fun hge => ?_⟩
  · have hla : a < (list.length : Int) := by
      by_cases h : a < (list.length : Int)
      · exact h
      · rw [delta_end h, drop_lt (0, 0, 0) i0 hlt] at hI; cases hI
    have hp := piece_le (old := old) a0 hla
    rw [drop_lt (0, 0, 0) i0 hlt, delta_step a0 hla, List.cons.injEq] at hI
    obtain ⟨hx, hI⟩ := hI
    have F : ∀ g : Int, 0 ≤ g → g < (old.length : Int) → cp (old.drop g.toNat) (list.drop a.toNat) ≤ max (D.getD i.toNat (0, 0, 0)).2.2 1 ∧ (0 < (D.getD i.toNat (0, 0, 0)).2.2 → cp (old.drop g.toNat) (list.drop a.toNat) = (D.getD i.toNat (0, 0, 0)).2.2 → (D.getD i.toNat (0, 0, 0)).2.1 ≤ g) := by
      intro g g0 g1
      have := pieceAt_max (list.getD a.toNat 0) (list.drop (a + 1).toNat) g0 g1
      rw [← drop_lt 0 a0 hla] at this
      rw [hx]; exact this
    rw [← hx] at hp hI
    generalize List.getD D i.toNat (0, 0, 0) = x at *
    refine ⟨fun f => 0 ≤ f ∧ f ≤ old.length, fun f => (old.length - f).toNat, ?_, ?_⟩ <;> dsimp only
    · simp
    rintro f ⟨f0, f1⟩
    refine ⟨fun hlf => ?_, fun hgf => ?_⟩
    · refine ⟨fun n => 0 ≤ n ∧ f + n ≤ old.length ∧ a + n ≤ list.length ∧ cp (old.drop f.toNat) (list.drop a.toNat) = n + cp (old.drop (f + n).toNat) (list.drop (a + n).toNat), fun n => (old.length - n).toNat, ?_, ?_⟩ <;> dsimp only
      · simp; omega
      rintro n ⟨n0, n1, n2, n3⟩
      obtain ⟨F1, F2⟩ := F f f0 hlf
      have fin : n = cp (old.drop f.toNat) (list.drop a.toNat) → ¬ max x.2.2 1 < n ∧ (0 < x.2.2 → n = x.2.2 → ¬ f < x.2.1) := fun h => ⟨by omega, fun q1 q2 => by have := F2 q1 (by omega); omega⟩
      clear F F1 F2
      refine ⟨by omega, fun q1 => ⟨by omega, fun q2 => ⟨by omega, by omega, q1, by omega, by omega, by omega, q2, by omega, fun he => ?_, fun he => ?_⟩, fun q2 => ?_⟩, fun q1 => ?_⟩
      · rw [cp_step (by omega) q1 (by omega) q2, if_pos he] at n3
        rw [show f + (n + 1) = f + n + 1 by omega, show a + (n + 1) = a + n + 1 by omega]
        exact ⟨by omega, ⟨by omega, by omega, by omega, by omega⟩, by omega⟩
      · rw [cp_step (by omega) q1 (by omega) q2, if_neg he] at n3
        have fin' := fin (by omega)
        clear fin n3
        repeat' (first | apply And.intro | intro _)
        all_goals (first | omega | grind)
      · rw [cp_end (.inr q2)] at n3
        have fin' := fin (by omega)
        clear fin n3
        repeat' (first | apply And.intro | intro _)
        all_goals (first | omega | grind)
      · rw [cp_end (.inl q1)] at n3
        have fin' := fin (by omega)
        clear fin n3
        repeat' (first | apply And.intro | intro _)
        all_goals (first | omega | grind)
    · refine ⟨by omega, by omega, by omega, by omega, by omega, ⟨by omega, by omega, by omega, by omega, hI⟩, by omega⟩
  · rw [drop_ge hge] at hI
    have : ¬ a < (list.length : Int) := fun h => by rw [delta_step a0 h] at hI; cases hI
    exact ⟨fun _ => rfl, fun h => by omega⟩
def S_l_FnDeltaLongest : FSpec where
  args := [.sc (.sl .u8)]
  outs := [.sc .bool]
  pre := fun a => match a with
    | [.sc (.sl .u8 code)] => (((code).length : Nat) : Int) ≤ 9223372036854775807
    | _ => False
  post := fun a r => match a, r with
    | [.sc (.sl .u8 code)], [.sc (.bool r)] => r = true
    | _, _ => False
  kept := false
theorem m_l_FnDeltaLongest : Meets Try.prog 7 S_l_FnDeltaLongest :=
  meets tok mixed Try.func7 (by kernel_rfl) (l := [(39, S_s_DeltaOf), (40, S_i_DeltaOf), (44, S_s_DrawDeltaOf), (45, S_l_samePieces), (46, S_s_ListValid)]) ⟨m_s_DeltaOf, m_i_DeltaOf, m_s_DrawDeltaOf, m_l_samePieces, m_s_ListValid, trivial⟩ (ann := [(10, [.slot 7 .int, .slot 8 .int]), (13, [.slot 9 .int]), (16, [.slot 10 .int])]) v_l_FnDeltaLongest (by kernel_rfl)
theorem a_l_FnDeltaLongest : LawOf Try.prog Try.f7.params.toList S_l_FnDeltaLongest where
  args := by kernel_rfl
  outs := rfl
  pre := AKs.all_iff.1 (show AKs.all S_l_FnDeltaLongest.args (fun ds => bnds ds → S_l_FnDeltaLongest.pre ds) from fun x0 h => h.1)
  post := AKs.all_iff.1 (show AKs.all S_l_FnDeltaLongest.args (fun ds => ∀ b, S_l_FnDeltaLongest.post ds [.sc (.bool b)] → b = true) from fun x0 _ h => h)
set_option maxRecDepth 100000 in
theorem lifted_l_FnDeltaLongest (os : Os) (started : os.Started) (H : Type) (enc : TypeId × Value → H) :
    ReturnsInHanded {} Try.checked os 7 .any (Rows.fnDeltaLongestSpec.pre6 enc Try.prog Try.f7 Rows.fnDeltaLongestRow.domain false) (Rows.fnDeltaLongestSpec.post enc Try.prog Try.f7 false true false false) :=
  law_lifted (C := Try.checked) (F := S_l_FnDeltaLongest) (by kernel_rfl) started (by kernel_rfl) Try.func7
    (ChangeSpec.witness6 (enc := enc) (C := Try.checked) false ⟨#[], #[.slice none 0 0], []⟩ 8 (by kernel_rfl) (by kernel_rfl) (by kernel_rfl) (by kernel_rfl))
    m_l_FnDeltaLongest a_l_FnDeltaLongest (by kernel_rfl) (of_decide_eq_true (by kernel_rfl)) rfl (fun ds h => by match ds, h with | [d0], _ => rfl) (by kernel_rfl) Try.underlying4
theorem facts_FnDeltaLongest : ∀ P : Program, P = Try.prog → P.initOrder.toList = ioNums.map Char.ofNat → joinedFacts P 7 Try.f7 Rows.fnDeltaLongestSpec Rows.fnDeltaLongestRow = true := by
  intro P hP h
  have h1 := io1 P hP h
  have h2 := io2 P hP h
  have h3 := io3 P hP h
  unfold joinedFacts
  rw [h1, h2, h3]
  subst hP
  show (_ : Bool) = true
  kernel_rfl
theorem proved_FnDeltaLongest : Rows.FnDeltaLongestSaid :=
  OpenClaim.holds_of_wide 7 Try.f7 rfl rfl rfl rfl rfl rfl rfl ⟨rfl, rfl, rfl, rfl, rfl⟩ rfl rfl rfl rfl rfl (by kernel_rfl) Try.func7 (facts_FnDeltaLongest _ rfl ioL)
    (of_decide_eq_true (by kernel_rfl)) (by unfold Func.isWrapper; first | (rw [if_pos (by decide +kernel)]; kernel_rfl) | (rw [if_neg (by decide +kernel)]; exact ⟨rfl, rfl⟩))
    (fun os started H enc _ => lifted_l_FnDeltaLongest os started H enc)
end Go.Proofs.Ythongcikinnjlaa
