/-
  FnFeedBlock: for every input the law returns true, and each argument reads afterwards as it read before. No conditions.
-/
import Derived.Test.YtgimfahkojmplaaGreatRows
import Derived.Test.YtgimfahkojmplaaGreatT
import Derived.Test.YtgimfahkojmplaaGreatSa
import Derived.Test.YtgimfahkojmplaaGreatSb
import Derived.Test.YtgimfahkojmplaaGreatSf
import Derived.Test.YtgimfahkojmplaaGreatSg
import Derived.Test.YtgimfahkojmplaaGreatSj
import Derived.Test.YtgimfahkojmplaaGreatSk
import Derived.Test.YtgimfahkojmplaaGreatSl
import Derived.Test.YtgimfahkojmplaaGreatSm
import Derived.Test.YtgimfahkojmplaaGreatSn
import Derived.Test.YtgimfahkojmplaaGreatSo
import Derived.Test.YtgimfahkojmplaaGreatSp
import Derived.Test.YtgimfahkojmplaaGreatSr
import Derived.Test.YtgimfahkojmplaaGreatSs
import Derived.Test.YtgimfahkojmplaaGreatSt
set_option linter.unusedVariables false
set_option linter.unusedSimpArgs false
open Go Go.Ax Go.Mx Go.ChangeShapes Go.WideShapes Go.RowKit Go.ChangeAt
namespace Go.Proofs.YtgimfahkojmplaaGreat
def V_l_FnFeedBlock : Prop :=
  ∀ (l0 l1 : List UInt8), (l0.length : Int) ≤ (9223372036854775807 : Int) ∧ (l1.length : Int) ≤ (9223372036854775807 : Int) → (1048576 < (l0.length : Int) → true = true) ∧ (¬1048576 < (l0.length : Int) → (1048576 < (l1.length : Int) → true =
 true) ∧ (¬1048576 < (l1.length : Int) → (l0.length : Int) ≤ 1099511627776 ∧ ∀ (l2 l3 : List Int), ((l2.length : Int) ≤ 6000 ∧ (l3.length : Int) ≤ 200 → ((l2.length : Int) ≤ 1099511627776 ∧ (l3.length : Int) ≤ 1099511627776) ∧ (true = (rdOk
 l2 l3 true && !true && decide ((l2.length : Int) = 0)) → ((l2.length : Int) ≤ 1099511627776 ∧ (l3.length : Int) ≤ 1099511627776) ∧ (true = (rdOk l2 l3 true && !true && decide ((l2.length : Int) = 0)) → 0 ≤ (l1.length : Int) ∧ (0 : Int) < 40
 ∧ (l1.length : Int) % 40 = (l1.length : Int) % 40 ∧ 0 ≤ (l1.length : Int) % 40 ∧ (l1.length : Int) % (40 : Int) ≤ 1099511627776 ∧ ∃ (I4 : Int → List Int → Prop), ∃ (m5 : Int → List Int → Nat), I4 0 (List.replicate (Int.toNat ((l1.length :
 Int) % 40)) 0) ∧ ∀ (n6 : Int) (l7 : List Int), I4 n6 l7 → (n6 < (l7.length : Int) → 0 ≤ n6 ∧ n6 < (l1.length : Int) ∧ (-9223372036854775808 ≤ (↑(UInt8.toNat (List.getD l1 (n6.toNat) 0)) : Int) ∧ (↑(UInt8.toNat (List.getD l1 (n6.toNat) 0)) :
 Int) ≤ (9223372036854775807 : Int)) ∧ 0 ≤ (↑(UInt8.toNat (List.getD l1 (n6.toNat) 0)) : Int) ∧ (0 : Int) < 8 ∧ 0 ≤ n6 ∧ n6 < (l7.length : Int) ∧ n6.toNat < l7.length ∧ (-9223372036854775808 ≤ n6 + 1 ∧ n6 + (1 : Int) ≤ (9223372036854775807 :
 Int)) ∧ I4 (n6 + 1) (List.set l7 (n6.toNat) ((↑(UInt8.toNat (List.getD l1 (n6.toNat) 0)) : Int) % 8)) ∧ m5 (n6 + 1) (List.set l7 (n6.toNat) ((↑(UInt8.toNat (List.getD l1 (n6.toNat) 0)) : Int) % 8)) < m5 n6 l7) ∧ (¬n6 < (l7.length : Int) → (∃
 (xs : List Int), xs = packB l7 ∧ (↑(List.length xs) : Int) ≤ 82) ∧ (l7.length : Int) ≤ 1099511627776 ∧ ∀ (l8 : List Int), l8 = packB l7 ∧ (l8.length : Int) ≤ 82 → (∃ (xs : List Int), ∃ (xs_1 : List Int), ∃ (b : Bool), ∃ (b_1 : Bool), Fed l2
 l3 true l8 b_1 xs xs_1 b) ∧ ((l2.length : Int) ≤ 10000000000 ∧ (l3.length : Int) ≤ 10000000000 ∧ (l8.length : Int) ≤ 10000000000) ∧ ∀ (l9 l10 : List Int), ((Fed l2 l3 true l8 true l9 l10 true → (-9223372036854775808 ≤ (l3.length : Int) +
 (l7.length : Int) ∧ (l3.length : Int) + (l7.length : Int) ≤ (9223372036854775807 : Int)) ∧ (120 < (l3.length : Int) + (l7.length : Int) → true = true) ∧ (¬120 < (l3.length : Int) + (l7.length : Int) → (∃ (b : Bool), b = (rdOk l9 l10 true &&
 !true && decide ((l9.length : Int) = 0))) ∧ ((l9.length : Int) ≤ 1099511627776 ∧ (l10.length : Int) ≤ 1099511627776) ∧ (true = (rdOk l9 l10 true && !true && decide ((l9.length : Int) = 0)) → (↑(0 + l3.length) : Int) ≤ 1099511627776 ∧
 (↑(l3.length + l7.length) : Int) ≤ 1099511627776 ∧ (∃ (b : Bool), b = decide (l10 = l3 ++ l7)) ∧ ((l10.length : Int) ≤ 1099511627776 ∧ (↑(List.length (l3 ++ l7)) : Int) ≤ 1099511627776) ∧ (true = decide (l10 = l3 ++ l7) → true = true) ∧
 (false = decide (l10 = l3 ++ l7) → false = true)) ∧ (false = (rdOk l9 l10 true && !true && decide ((l9.length : Int) = 0)) → false = true))) ∧ (Fed l2 l3 true l8 false l9 l10 true → (-9223372036854775808 ≤ (l3.length : Int) + (l7.length :
 Int) ∧ (l3.length : Int) + (l7.length : Int) ≤ (9223372036854775807 : Int)) ∧ (120 < (l3.length : Int) + (l7.length : Int) → false = true) ∧ (¬120 < (l3.length : Int) + (l7.length : Int) → false = true))) ∧ (Fed l2 l3 true l8 true l9 l10
 false → (-9223372036854775808 ≤ (l3.length : Int) + (l7.length : Int) ∧ (l3.length : Int) + (l7.length : Int) ≤ (9223372036854775807 : Int)) ∧ (120 < (l3.length : Int) + (l7.length : Int) → false = true) ∧ (¬120 < (l3.length : Int) +
 (l7.length : Int) → (∃ (b : Bool), b = (rdOk l9 l10 false && !false && decide ((l9.length : Int) = 0))) ∧ ((l9.length : Int) ≤ 1099511627776 ∧ (l10.length : Int) ≤ 1099511627776) ∧ (true = (rdOk l9 l10 false && !false && decide ((l9.length :
 Int) = 0)) → (↑(0 + l3.length) : Int) ≤ 1099511627776 ∧ (↑(l3.length + l7.length) : Int) ≤ 1099511627776 ∧ (∃ (b : Bool), b = decide (l10 = l3 ++ l7)) ∧ ((l10.length : Int) ≤ 1099511627776 ∧ (↑(List.length (l3 ++ l7)) : Int) ≤ 1099511627776)
 ∧ (true = decide (l10 = l3 ++ l7) → true = true) ∧ (false = decide (l10 = l3 ++ l7) → false = true)) ∧ (false = (rdOk l9 l10 false && !false && decide ((l9.length : Int) = 0)) → false = true))) ∧ (Fed l2 l3 true l8 false l9 l10 false →
 (-9223372036854775808 ≤ (l3.length : Int) + (l7.length : Int) ∧ (l3.length : Int) + (l7.length : Int) ≤ (9223372036854775807 : Int)) ∧ (120 < (l3.length : Int) + (l7.length : Int) → false = true) ∧ (¬120 < (l3.length : Int) + (l7.length :
 Int) → false = true)))) ∧ (false = (rdOk l2 l3 true && !true && decide ((l2.length : Int) = 0)) → false = true)) ∧ (false = (rdOk l2 l3 true && !true && decide ((l2.length : Int) = 0)) → ((l2.length : Int) ≤ 1099511627776 ∧ (l3.length : Int)
 ≤ 1099511627776) ∧ (true = (rdOk l2 l3 true && !true && decide ((l2.length : Int) = 0)) → false = true) ∧ (false = (rdOk l2 l3 true && !true && decide ((l2.length : Int) = 0)) → true = true))) ∧ ((l2.length : Int) ≤ 6000 ∧ (l3.length : Int)
 ≤ 200 → ((l2.length : Int) ≤ 1099511627776 ∧ (l3.length : Int) ≤ 1099511627776) ∧ (true = (rdOk l2 l3 false && !false && decide ((l2.length : Int) = 0)) → ((l2.length : Int) ≤ 1099511627776 ∧ (l3.length : Int) ≤ 1099511627776) ∧ (true =
 (rdOk l2 l3 false && !false && decide ((l2.length : Int) = 0)) → 0 ≤ (l1.length : Int) ∧ (0 : Int) < 40 ∧ (l1.length : Int) % 40 = (l1.length : Int) % 40 ∧ 0 ≤ (l1.length : Int) % 40 ∧ (l1.length : Int) % (40 : Int) ≤ 1099511627776 ∧ ∃ (I11
 : Int → List Int → Prop), ∃ (m12 : Int → List Int → Nat), I11 0 (List.replicate (Int.toNat ((l1.length : Int) % 40)) 0) ∧ ∀ (n13 : Int) (l14 : List Int), I11 n13 l14 → (n13 < (l14.length : Int) → 0 ≤ n13 ∧ n13 < (l1.length : Int) ∧
 (-9223372036854775808 ≤ (↑(UInt8.toNat (List.getD l1 (n13.toNat) 0)) : Int) ∧ (↑(UInt8.toNat (List.getD l1 (n13.toNat) 0)) : Int) ≤ (9223372036854775807 : Int)) ∧ 0 ≤ (↑(UInt8.toNat (List.getD l1 (n13.toNat) 0)) : Int) ∧ (0 : Int) < 8 ∧ 0 ≤
 n13 ∧ n13 < (l14.length : Int) ∧ n13.toNat < l14.length ∧ (-9223372036854775808 ≤ n13 + 1 ∧ n13 + (1 : Int) ≤ (9223372036854775807 : Int)) ∧ I11 (n13 + 1) (List.set l14 (n13.toNat) ((↑(UInt8.toNat (List.getD l1 (n13.toNat) 0)) : Int) % 8)) ∧
 m12 (n13 + 1) (List.set l14 (n13.toNat) ((↑(UInt8.toNat (List.getD l1 (n13.toNat) 0)) : Int) % 8)) < m12 n13 l14) ∧ (¬n13 < (l14.length : Int) → (∃ (xs : List Int), xs = packB l14 ∧ (↑(List.length xs) : Int) ≤ 82) ∧ (l14.length : Int) ≤
 1099511627776 ∧ ∀ (l15 : List Int), l15 = packB l14 ∧ (l15.length : Int) ≤ 82 → (∃ (xs : List Int), ∃ (xs_1 : List Int), ∃ (b : Bool), ∃ (b_1 : Bool), Fed l2 l3 false l15 b_1 xs xs_1 b) ∧ ((l2.length : Int) ≤ 10000000000 ∧ (l3.length : Int)
 ≤ 10000000000 ∧ (l15.length : Int) ≤ 10000000000) ∧ ∀ (l16 l17 : List Int), ((Fed l2 l3 false l15 true l16 l17 true → (-9223372036854775808 ≤ (l3.length : Int) + (l14.length : Int) ∧ (l3.length : Int) + (l14.length : Int) ≤
 (9223372036854775807 : Int)) ∧ (120 < (l3.length : Int) + (l14.length : Int) → true = true) ∧ (¬120 < (l3.length : Int) + (l14.length : Int) → (∃ (b : Bool), b = (rdOk l16 l17 true && !true && decide ((l16.length : Int) = 0))) ∧ ((l16.length
 : Int) ≤ 1099511627776 ∧ (l17.length : Int) ≤ 1099511627776) ∧ (true = (rdOk l16 l17 true && !true && decide ((l16.length : Int) = 0)) → (↑(0 + l3.length) : Int) ≤ 1099511627776 ∧ (↑(l3.length + l14.length) : Int) ≤ 1099511627776 ∧ (∃ (b :
 Bool), b = decide (l17 = l3 ++ l14)) ∧ ((l17.length : Int) ≤ 1099511627776 ∧ (↑(List.length (l3 ++ l14)) : Int) ≤ 1099511627776) ∧ (true = decide (l17 = l3 ++ l14) → true = true) ∧ (false = decide (l17 = l3 ++ l14) → false = true)) ∧ (false
 = (rdOk l16 l17 true && !true && decide ((l16.length : Int) = 0)) → false = true))) ∧ (Fed l2 l3 false l15 false l16 l17 true → (-9223372036854775808 ≤ (l3.length : Int) + (l14.length : Int) ∧ (l3.length : Int) + (l14.length : Int) ≤
 (9223372036854775807 : Int)) ∧ (120 < (l3.length : Int) + (l14.length : Int) → false = true) ∧ (¬120 < (l3.length : Int) + (l14.length : Int) → false = true))) ∧ (Fed l2 l3 false l15 true l16 l17 false → (-9223372036854775808 ≤ (l3.length :
 Int) + (l14.length : Int) ∧ (l3.length : Int) + (l14.length : Int) ≤ (9223372036854775807 : Int)) ∧ (120 < (l3.length : Int) + (l14.length : Int) → false = true) ∧ (¬120 < (l3.length : Int) + (l14.length : Int) → (∃ (b : Bool), b = (rdOk l16
 l17 false && !false && decide ((l16.length : Int) = 0))) ∧ ((l16.length : Int) ≤ 1099511627776 ∧ (l17.length : Int) ≤ 1099511627776) ∧ (true = (rdOk l16 l17 false && !false && decide ((l16.length : Int) = 0)) → (↑(0 + l3.length) : Int) ≤
 1099511627776 ∧ (↑(l3.length + l14.length) : Int) ≤ 1099511627776 ∧ (∃ (b : Bool), b = decide (l17 = l3 ++ l14)) ∧ ((l17.length : Int) ≤ 1099511627776 ∧ (↑(List.length (l3 ++ l14)) : Int) ≤ 1099511627776) ∧ (true = decide (l17 = l3 ++ l14) →
 true = true) ∧ (false = decide (l17 = l3 ++ l14) → false = true)) ∧ (false = (rdOk l16 l17 false && !false && decide ((l16.length : Int) = 0)) → false = true))) ∧ (Fed l2 l3 false l15 false l16 l17 false → (-9223372036854775808 ≤ (l3.length
 : Int) + (l14.length : Int) ∧ (l3.length : Int) + (l14.length : Int) ≤ (9223372036854775807 : Int)) ∧ (120 < (l3.length : Int) + (l14.length : Int) → false = true) ∧ (¬120 < (l3.length : Int) + (l14.length : Int) → false = true)))) ∧ (false
 = (rdOk l2 l3 false && !false && decide ((l2.length : Int) = 0)) → false = true)) ∧ (false = (rdOk l2 l3 false && !false && decide ((l2.length : Int) = 0)) → ((l2.length : Int) ≤ 1099511627776 ∧ (l3.length : Int) ≤ 1099511627776) ∧ (true =
 (rdOk l2 l3 false && !false && decide ((l2.length : Int) = 0)) → false = true) ∧ (false = (rdOk l2 l3 false && !false && decide ((l2.length : Int) = 0)) → true = true)))))
theorem v_l_FnFeedBlock : V_l_FnFeedBlock := by
  unfold V_l_FnFeedBlock
  intro code more ⟨hz, hm⟩
  refine ⟨fun _ => rfl, fun hc => ⟨fun _ => rfl, fun hd => ⟨by omega, fun w t => ⟨?_, ?_⟩⟩⟩⟩
  · rintro ⟨hw, ht⟩
    simp only [Bool.not_true, Bool.and_false, Bool.false_and]
    exact ⟨by omega, fun q => (by cases q), fun _ => ⟨by omega, fun q => (by cases q), fun _ => by trivial⟩⟩
  · rintro ⟨hw, ht⟩
    refine ⟨by omega, fun hok => ⟨by omega, fun _ => ?_, (fun q => by rw [← hok] at q; cases q)⟩, fun hok => ⟨by omega, (fun q => by rw [← hok] at q; cases q), fun _ => rfl⟩⟩
    have c0 := Int.emod_nonneg (more.length : Int) (b := 40) (by omega)
    have c1 := Int.emod_lt_of_pos (more.length : Int) (b := 40) (by omega)
    have c2 : (more.length : Int) % 40 ≤ more.length := by omega
    refine ⟨by omega, by omega, rfl, by omega, by omega, ?_⟩
    have hok := hok.symm
    simp only [Bool.and_eq_true, Bool.not_false, decide_eq_true_eq, and_true] at hok
    obtain ⟨hr, hw0⟩ := hok
    obtain rfl : w = [] := List.eq_nil_of_length_eq_zero (by omega)
    have htx := rdOk_iff.1 hr
    have ht120 := textOk_iff.1 htx.1
    refine ⟨fun i l => 0 ≤ i ∧ (l.length : Int) = (more.length : Int) % 40 ∧ allIn 0 7 l = true, fun i l => (l.length - i).toNat, ?_, ?_⟩ <;> dsimp only
    · refine ⟨by omega, by rw [List.length_replicate]; omega, ?_⟩
      rw [allIn_iff]
      intro x hx
      have := List.eq_of_mem_replicate hx
      omega
    rintro i l ⟨i0, hl, hl7⟩
    refine ⟨fun hi => ?_, fun hi => ?_⟩
    · have hb := UInt8.toNat_lt (more.getD i.toNat 0)
      have m0 := Int.emod_nonneg ((more.getD i.toNat 0).toNat : Int) (b := 8) (by omega)
      have m1 := Int.emod_lt_of_pos ((more.getD i.toNat 0).toNat : Int) (b := 8) (by omega)
      refine ⟨by omega, by omega, by omega, by omega, by omega, by omega, by omega, by omega, by omega, ⟨by omega, by rw [List.length_set]; omega, ?_⟩, by rw [List.length_set]; omega⟩
      rw [allIn_iff] at hl7 ⊢
      intro x hx
      rcases List.mem_or_eq_of_mem_set hx with h | h
      · exact hl7 x h
      · omega
    · have hv : LV l = true := by simp [LV, hl7]; omega
      have hp := packB_len l
      refine ⟨⟨_, rfl, by omega⟩, by omega, ?_⟩
      rintro p ⟨rfl, _⟩
      refine ⟨feed_some _ _ _ _, by simp; omega, ?_⟩
      have hF : feedD [] t false (packB l) = if t.length + l.length ≤ 120 then ([], t ++ l, false) else ([], t, true) := feed_pack hv
      have hK : (rdOk [] t false && allIn 0 255 (packB l)) = true := by rw [hr, hp.2]; rfl
      have e0 : ([] : List Int).length = 0 := rfl
      unfold Fed
      rw [hF, hK]
      intro x y
      refine ⟨⟨?_, fun q => (by cases q.1)⟩, ?_, fun q => (by cases q.1)⟩
      · rintro ⟨_, q, _, _⟩
        rw [if_pos rfl] at q
        by_cases hs : t.length + l.length ≤ 120
        · rw [if_pos hs] at q; simp at q
        · exact ⟨by omega, fun _ => by trivial, fun q => by omega⟩
      · rintro ⟨_, q, _, hy⟩
        rw [if_pos rfl] at q
        by_cases hs : t.length + l.length ≤ 120
        · rw [if_pos hs] at q
          simp only [Prod.mk.injEq, and_true] at q
          obtain ⟨rfl, rfl⟩ := q
          have hr2 : rdOk [] (t ++ l) false = true := rdOk_iff.2 ⟨textOk_iff.2 ⟨by rw [List.length_append]; omega, allIn_append.2 ⟨ht120.2, hl7⟩⟩, rfl, fun q => (by cases q), fun _ => state_nil⟩
          rw [hr2]
          exact ⟨by omega, fun q => by omega, fun _ => ⟨⟨_, rfl⟩, by omega, fun _ => ⟨by omega, by omega, ⟨_, rfl⟩, ⟨by omega, by omega⟩, fun _ => rfl, fun q => by simp at q⟩, fun q => by simp at q⟩⟩
        · rw [if_neg hs] at q; simp at q
def S_l_FnFeedBlock : FSpec where
  args := [.sc (.sl .u8), .sc (.sl .u8)]
  outs := [.sc .bool]
  pre := fun a => match a with
    | [.sc (.sl .u8 code), .sc (.sl .u8 more)] => (((code).length : Nat) : Int) ≤ 9223372036854775807 ∧ (((more).length : Nat) : Int) ≤ 9223372036854775807
    | _ => False
  post := fun a r => match a, r with
    | [.sc (.sl .u8 code), .sc (.sl .u8 more)], [.sc (.bool r)] => r = true
    | _, _ => False
  kept := false
theorem m_l_FnFeedBlock : Meets Tryz.prog 5 S_l_FnFeedBlock :=
  meets tok mixed Tryz.func5 (by kernel_rfl) (l := [(9, S_l_sameInts), (11, S_i_BlockPack), (13, S_s_DrawStreamEnd), (14, S_i_StreamEnd), (15, S_s_StreamEnd), (16, S_i_StreamFeed)]) ⟨m_l_sameInts, m_i_BlockPack, m_s_DrawStreamEnd, m_i_StreamEnd, m_s_StreamEnd, m_i_StreamFeed, trivial⟩ (ann := [(10, [.slot 9 .int, .arr 8 3 .int])]) v_l_FnFeedBlock (by kernel_rfl)
theorem a_l_FnFeedBlock : LawOf Tryz.prog Tryz.f5.params.toList S_l_FnFeedBlock where
  args := by kernel_rfl
  outs := rfl
  pre := AKs.all_iff.1 (show AKs.all S_l_FnFeedBlock.args (fun ds => bnds ds → S_l_FnFeedBlock.pre ds) from fun x0 x1 h => ⟨h.1, h.2.1⟩)
  post := AKs.all_iff.1 (show AKs.all S_l_FnFeedBlock.args (fun ds => ∀ b, S_l_FnFeedBlock.post ds [.sc (.bool b)] → b = true) from fun x0 x1 _ h => h)
set_option maxRecDepth 100000 in
theorem lifted_l_FnFeedBlock (os : Os) (started : os.Started) (H : Type) (enc : TypeId × Value → H) :
    ReturnsInHanded {} Tryz.checked os 5 .any (Rows.fnFeedBlockSpec.pre6 enc Tryz.prog Tryz.f5 Rows.fnFeedBlockRow.domain false) (Rows.fnFeedBlockSpec.post enc Tryz.prog Tryz.f5 false true false false) :=
  law_lifted (C := Tryz.checked) (F := S_l_FnFeedBlock) (by kernel_rfl) started (by kernel_rfl) Tryz.func5
    (ChangeSpec.witness6 (enc := enc) (C := Tryz.checked) false ⟨#[], #[.slice none 0 0, .slice none 0 0], []⟩ 8 (by kernel_rfl) (by kernel_rfl) (by kernel_rfl) (by kernel_rfl))
    m_l_FnFeedBlock a_l_FnFeedBlock (by kernel_rfl) (of_decide_eq_true (by kernel_rfl)) rfl (fun ds h => by match ds, h with | [d0, d1], _ => rfl) (by kernel_rfl) Tryz.underlying4
theorem facts_FnFeedBlock : ∀ P : Program, P = Tryz.prog → P.initOrder.toList = ioNums.map Char.ofNat → joinedFacts P 5 Tryz.f5 Rows.fnFeedBlockSpec Rows.fnFeedBlockRow = true := by
  intro P hP h
  have h1 := io1 P hP h
  have h2 := io2 P hP h
  have h3 := io3 P hP h
  unfold joinedFacts
  rw [h1, h2, h3]
  subst hP
  show (_ : Bool) = true
  kernel_rfl
theorem proved_FnFeedBlock : Rows.FnFeedBlockSaid :=
  OpenClaim.holds_of_wide 5 Tryz.f5 rfl rfl rfl rfl rfl rfl rfl ⟨rfl, rfl, rfl, rfl, rfl⟩ rfl rfl rfl rfl rfl (by kernel_rfl) Tryz.func5 (facts_FnFeedBlock _ rfl ioL)
    (of_decide_eq_true (by kernel_rfl)) (by unfold Func.isWrapper; first | (rw [if_pos (by decide +kernel)]; kernel_rfl) | (rw [if_neg (by decide +kernel)]; exact ⟨rfl, rfl⟩))
    (fun os started H enc _ => lifted_l_FnFeedBlock os started H enc)
end Go.Proofs.YtgimfahkojmplaaGreat
