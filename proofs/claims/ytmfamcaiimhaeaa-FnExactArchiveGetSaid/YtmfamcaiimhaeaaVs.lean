/-
  The conditions of functions, proved: s_arch.
-/
import Derived.Test.YtmfamcaiimhaeaaM
set_option linter.unusedVariables false
set_option linter.unusedSimpArgs false
open Go Go.Ax Go.Mx
namespace Go.Proofs.Ytmfamcaiimhaeaa
def V_s_l42Pack : Prop :=
  ∀ (l0 : List (Int × List Int)), entOk l0 = true → ∃ (I1 : List Int → List Int → Int → Prop), ∃ (m2 : List Int → List Int → Int → Nat), I1 [(↑(List.length l0) : Int)] [] 0 ∧ ∀ (l3 l4 : List Int) (n5 : Int), I1 l3 l4 n5 → (n5 < (↑(List.length
    l0) : Int) → 0 ≤ n5 ∧ n5 < (↑(List.length l0) : Int) ∧ (↑(List.length (Prod.snd (List.getD l0 (Int.toNat n5) (0, [])))) : Int) ≤ 1099511627776 ∧ ∀ (l6 : List Int), l6 = packB (Prod.snd (List.getD l0 (Int.toNat n5) (0, []))) ∧ (↑(List.length
    l6) : Int) ≤ 82 → 0 ≤ n5 ∧ n5 < (↑(List.length l0) : Int) ∧ (↑(List.length l3 + List.length [Prod.fst (List.getD l0 (Int.toNat n5) (0, [])), (↑(List.length l6) : Int)]) : Int) ≤ 1099511627776 ∧ (↑(List.length l4 + List.length l6) : Int) ≤
    1099511627776 ∧ (-9223372036854775808 ≤ n5 + 1 ∧ n5 + (1 : Int) ≤ (9223372036854775807 : Int)) ∧ I1 (l3 ++ [Prod.fst (List.getD l0 (Int.toNat n5) (0, [])), (↑(List.length l6) : Int)]) (l4 ++ l6) (n5 + 1) ∧ m2 (l3 ++ [Prod.fst (List.getD l0 (Int.toNat n5)
    (0, [])), (↑(List.length l6) : Int)]) (l4 ++ l6) (n5 + 1) < m2 l3 l4 n5) ∧ (¬n5 < (↑(List.length l0) : Int) → (↑(List.length l3 + List.length l4) : Int) ≤ 1099511627776 ∧ l3 ++ l4 = packE l0)
theorem v_s_l42Pack : V_s_l42Pack := by
  unfold V_s_l42Pack
  intro es hok
  have h' := entOk_iff.1 hok
  refine ⟨fun o q i => 0 ≤ i ∧ i ≤ es.length ∧ o = (es.length : Int) :: indexE (es.take i.toNat) ∧ q = blocksE (es.take i.toNat), fun o q i => (es.length - i).toNat, ?_, ?_⟩ <;> dsimp only
  · exact ⟨by omega, by omega, rfl, rfl⟩
  rintro o q i ⟨i0, i1, rfl, rfl⟩
  have hil := indexE_len (es.take i.toNat)
  have hbl := blocksE_len (es.take i.toNat)
  have htl := len_take (l := es) i0 i1
  refine ⟨fun hlt => ?_, fun hge => ?_⟩
  · obtain ⟨e1, e2, e3⟩ := ent_at hok i0 hlt
    have hl40 := LV_len e1
    have st1 := indexE_step i0 hlt
    have st2 := blocksE_step i0 hlt
    refine ⟨i0, hlt, by omega, ?_⟩
    rintro p ⟨rfl, hp⟩
    exact ⟨i0, hlt, by simp only [List.length_cons, List.length_nil]; omega, by omega, by omega, ⟨by omega, by omega, by rw [st1]; simp, st2.symm⟩, by omega⟩
  · rw [take_ge hge]
    rw [take_ge hge] at hil hbl
    exact ⟨by simp only [List.length_cons]; omega, rfl⟩
def V_i_ArchivePack : Prop :=
  ∀ (l0 : List (Int × List Int)), szE l0 ≤ 2000000 → szE l0 ≤ 2000000 ∧ (true = entOk l0 → ∃ (I1 : List Int → List Int → Int → Prop), ∃ (m2 : List Int → List Int → Int → Nat), I1 [(↑(List.length l0) : Int)] [] 0 ∧ ∀ (l3 l4 : List Int) (n5 :
    Int), I1 l3 l4 n5 → (n5 < (↑(List.length l0) : Int) → 0 ≤ n5 ∧ n5 < (↑(List.length l0) : Int) ∧ (↑(List.length (Prod.snd (List.getD l0 (Int.toNat n5) (0, [])))) : Int) ≤ 1099511627776 ∧ ∀ (l6 : List Int), l6 = packB (Prod.snd (List.getD l0
    (Int.toNat n5) (0, []))) ∧ (↑(List.length l6) : Int) ≤ 82 → (↑(List.length l3 + List.length [Prod.fst (List.getD l0 (Int.toNat n5) (0, [])), (↑(List.length l6) : Int)]) : Int) ≤ 1099511627776 ∧ (↑(List.length l4 + List.length l6) : Int) ≤
    1099511627776 ∧ (-9223372036854775808 ≤ n5 + 1 ∧ n5 + (1 : Int) ≤ (9223372036854775807 : Int)) ∧ I1 (l3 ++ [Prod.fst (List.getD l0 (Int.toNat n5) (0, [])), (↑(List.length l6) : Int)]) (l4 ++ l6) (n5 + 1) ∧ m2 (l3 ++ [Prod.fst (List.getD l0 (Int.toNat n5)
    (0, [])), (↑(List.length l6) : Int)]) (l4 ++ l6) (n5 + 1) < m2 l3 l4 n5) ∧ (¬n5 < (↑(List.length l0) : Int) → (↑(List.length l3 + List.length l4) : Int) ≤ 1099511627776 ∧ true = entOk l0 ∧ l3 ++ l4 = Option.getD (archD l0) [])) ∧ (false =
    entOk l0 → false = entOk l0 ∧ [] = Option.getD (archD l0) [])
theorem v_i_ArchivePack : V_i_ArchivePack := by
  unfold V_i_ArchivePack
  intro es hz
  refine ⟨hz, fun hv => ?_, fun hv => ⟨hv, by unfold archD; rw [← hv]; rfl⟩⟩
  have hok := hv.symm
  have hD : archD es = some (packE es) := if_pos hok
  rw [hD]
  have h' := entOk_iff.1 hok
  refine ⟨fun o q i => 0 ≤ i ∧ i ≤ es.length ∧ o = (es.length : Int) :: indexE (es.take i.toNat) ∧ q = blocksE (es.take i.toNat), fun o q i => (es.length - i).toNat, ?_, ?_⟩ <;> dsimp only
  · exact ⟨by omega, by omega, rfl, rfl⟩
  rintro o q i ⟨i0, i1, rfl, rfl⟩
  have hil := indexE_len (es.take i.toNat)
  have hbl := blocksE_len (es.take i.toNat)
  have htl := len_take (l := es) i0 i1
  refine ⟨fun hlt => ?_, fun hge => ?_⟩
  · obtain ⟨e1, e2, e3⟩ := ent_at hok i0 hlt
    have hl40 := LV_len e1
    have st1 := indexE_step i0 hlt
    have st2 := blocksE_step i0 hlt
    refine ⟨i0, hlt, by omega, ?_⟩
    rintro p ⟨rfl, hp⟩
    exact ⟨by simp only [List.length_cons, List.length_nil]; omega, by omega, by omega, ⟨by omega, by omega, by rw [st1]; simp, st2.symm⟩, by omega⟩
  · rw [take_ge hge]
    rw [take_ge hge] at hil hbl
    exact ⟨by simp only [List.length_cons]; omega, hv, rfl⟩
def V_s_ArchivePack : Prop :=
  ∀ (l0 : List (Int × List Int)), szE l0 ≤ 2000000 → szE l0 ≤ 2000000 ∧ (true = entOk l0 → entOk l0 = true ∧ ∀ (l1 : List Int), l1 = packE l0 → true = entOk l0 ∧ l1 = Option.getD (archD l0) []) ∧ (false = entOk l0 → false = entOk l0 ∧ [] =
    Option.getD (archD l0) [])
theorem v_s_ArchivePack : V_s_ArchivePack := by
  unfold V_s_ArchivePack
  intro es hz
  refine ⟨hz, fun hv => ⟨hv.symm, ?_⟩, fun hv => ⟨hv, by unfold archD; rw [← hv]; rfl⟩⟩
  rintro r rfl
  have hD : archD es = some (packE es) := if_pos hv.symm
  rw [hD]; exact ⟨hv, rfl⟩
def V_s_l42Read : Prop :=
  ∀ (l0 : List Int), (↑(List.length l0) : Int) ≤ 1099511627776 ∧ allIn 0 255 l0 = true ∧ 1 ≤ (↑(List.length l0) : Int) → (0 : Int) ≤ 0 ∧ 0 < (↑(List.length l0) : Int) ∧ ((-9223372036854775808 : Int) ≤ 2 * List.getD l0 (Int.toNat 0) 0 ∧ 2 * List.getD l0
    (Int.toNat 0) (0 : Int) ≤ (9223372036854775807 : Int)) ∧ ((-9223372036854775808 : Int) ≤ 1 + 2 * List.getD l0 (Int.toNat 0) 0 ∧ 1 + 2 * List.getD l0 (Int.toNat 0) (0 : Int) ≤ (9223372036854775807 : Int)) ∧ ∃ (I1 : List (Int × List Int) → Int → Int → Prop), ∃ (m2 : List (Int × List
    Int) → Int → Int → Nat), I1 [] (1 + 2 * List.getD l0 (Int.toNat 0) 0) 0 ∧ ∀ (l3 : List (Int × List Int)) (n4 n5 : Int), I1 l3 n4 n5 → (0 : Int) ≤ 0 ∧ 0 < (↑(List.length l0) : Int) ∧ (n5 < List.getD l0 (Int.toNat 0) 0 → (n5 < 5 → (n4 ≤ (↑(List.length
    l0) : Int) → 0 ≤ n4 ∧ n4 ≤ (↑(List.length l0) : Int) ∧ (↑(List.length (List.drop (Int.toNat n4) l0)) : Int) ≤ 1099511627776 ∧ ∀ (l6 : List Int) (n7 : Int), (true = Option.isSome (openD (List.drop (Int.toNat n4) l0)) ∧ (l6, n7) = Option.getD
    (openD (List.drop (Int.toNat n4) l0)) ([], 0) → ((-9223372036854775808 : Int) ≤ 2 * n5 ∧ 2 * n5 ≤ (9223372036854775807 : Int)) ∧ ((-9223372036854775808 : Int) ≤ 1 + 2 * n5 ∧ 1 + 2 * n5 ≤ (9223372036854775807 : Int)) ∧ (0 : Int) ≤ 1 + 2 * n5 ∧ 1 + 2 * n5 < (↑(List.length l0) : Int)
    ∧ (↑(List.length l3 + List.length [(List.getD l0 (Int.toNat (1 + 2 * n5)) 0, l6)]) : Int) ≤ 1099511627776 ∧ (-9223372036854775808 ≤ n4 + n7 ∧ n4 + n7 ≤ (9223372036854775807 : Int)) ∧ (-9223372036854775808 ≤ n5 + 1 ∧ n5 + (1 : Int) ≤ (9223372036854775807 : Int)) ∧
    I1 (l3 ++ [(List.getD l0 (Int.toNat (1 + 2 * n5)) 0, l6)]) (n4 + n7) (n5 + 1) ∧ m2 (l3 ++ [(List.getD l0 (Int.toNat (1 + 2 * n5)) 0, l6)]) (n4 + n7) (n5 + 1) < m2 l3 n4 n5) ∧ (false = Option.isSome (openD (List.drop (Int.toNat n4) l0)) ∧
    (l6, n7) = Option.getD (openD (List.drop (Int.toNat n4) l0)) ([], 0) → ((-9223372036854775808 : Int) ≤ 2 * n5 ∧ 2 * n5 ≤ (9223372036854775807 : Int)) ∧ ((-9223372036854775808 : Int) ≤ 1 + 2 * n5 ∧ 1 + 2 * n5 ≤ (9223372036854775807 : Int)) ∧ (0 : Int) ≤ 1 + 2 * n5 ∧ 1 + 2 * n5 <
    (↑(List.length l0) : Int) ∧ (↑(List.length l3 + List.length [(List.getD l0 (Int.toNat (1 + 2 * n5)) 0, l6)]) : Int) ≤ 1099511627776 ∧ (-9223372036854775808 ≤ n4 + n7 ∧ n4 + n7 ≤ (9223372036854775807 : Int)) ∧ (-9223372036854775808 ≤ n5 + 1 ∧ n5 + (1 : Int) ≤ (9223372036854775807 : Int)) ∧ I1 (l3 ++ [(List.getD l0 (Int.toNat (1 + 2 * n5)) 0, l6)]) (n4 + n7) (n5 + 1) ∧ m2 (l3 ++ [(List.getD l0 (Int.toNat (1 + 2 * n5)) 0, l6)]) (n4 + n7) (n5 + 1) < m2 l3 n4 n5)) ∧ (¬n4 ≤ (↑(List.length l0) : Int) → l3 =
    readS l0 (Int.toNat (min (List.getD l0 0 0) 5)) 0 (1 + 2 * List.getD l0 0 0))) ∧ (¬n5 < 5 → l3 = readS l0 (Int.toNat (min (List.getD l0 0 0) 5)) 0 (1 + 2 * List.getD l0 0 0))) ∧ (¬n5 < List.getD l0 (Int.toNat 0) 0 → l3 = readS l0 (Int.toNat
    (min (List.getD l0 0 0) 5)) 0 (1 + 2 * List.getD l0 0 0))
theorem v_s_l42Read : V_s_l42Read := by
  unfold V_s_l42Read
  rintro b ⟨hz, hin, h1⟩
  have e0 : b.getD (Int.toNat 0) 0 = b.getD 0 0 := rfl
  have hn := allIn_iff.1 hin _ (at_mem (i := 0) (by omega) (by omega))
  rw [e0] at hn ⊢
  generalize b.getD 0 0 = n at *
  refine ⟨by omega, by omega, by omega, by omega, ?_⟩
  refine ⟨fun o a i => 0 ≤ i ∧ i ≤ min n 5 ∧ 1 + 2 * n ≤ a ∧ a ≤ max (b.length : Int) (1 + 2 * n) ∧ (o.length : Int) ≤ i ∧ o ++ readS b (min n 5 - i).toNat i a = readS b (min n 5).toNat 0 (1 + 2 * n), fun o a i => (6 - i).toNat, ?_, ?_⟩ <;> dsimp only
  · exact ⟨by omega, by omega, by omega, by omega, by simp, by rw [Int.sub_zero]; rfl⟩
  rintro o a i ⟨i0, i1, a0, a1, ol, hI⟩
  have fin : readS b (min n 5 - i).toNat i a = [] → o = readS b (min n 5).toNat 0 (1 + 2 * n) := fun h => by rw [h, List.append_nil] at hI; exact hI
  refine ⟨by omega, by omega, fun hi => ⟨fun h5 => ⟨fun ha => ?_, fun ha => fin (readS_out ha)⟩, fun h5 => fin (by rw [show (min n 5 - i).toNat = 0 by omega, readS])⟩, fun hi => fin (by rw [show (min n 5 - i).toNat = 0 by omega, readS])⟩
  rw [show (min n 5 - i).toNat = (min n 5 - (i + 1)).toNat + 1 by omega, readS, if_pos ha] at hI
  have hdl : ((b.drop a.toNat).length : Int) = b.length - a := by simp; omega
  obtain ⟨g1, g2, g3⟩ := open_get (b.drop a.toNat)
  rw [hdl] at g3
  refine ⟨by omega, ha, by omega, fun l m => ⟨?_, ?_⟩⟩
  all_goals
    rintro ⟨_, hlm⟩
    have hl : ((openD (b.drop a.toNat)).getD ([], 0)).1 = l := (congrArg Prod.fst hlm).symm
    have hm : ((openD (b.drop a.toNat)).getD ([], 0)).2 = m := (congrArg Prod.snd hlm).symm
    rw [hl, hm] at hI
    rw [hm] at g2 g3
    exact ⟨by omega, by omega, by omega, by omega, by simp; omega, by omega, by omega, ⟨by omega, by omega, by omega, by omega, by simp; omega, by simpa using hI⟩, by omega⟩
def V_i_ArchiveOpen : Prop :=
  ∀ (l0 : List Int), (↑(List.length l0) : Int) ≤ 1099511627776 → (↑(List.length l0) : Int) ≤ 1099511627776 ∧ (true = allIn 0 255 l0 → ((↑(List.length l0) : Int) = 0 → false = Option.isSome (aopenD l0) ∧ [] = Option.getD (aopenD l0) []) ∧
    (¬(↑(List.length l0) : Int) = 0 → (0 : Int) ≤ 0 ∧ 0 < (↑(List.length l0) : Int) ∧ (5 < List.getD l0 (Int.toNat 0) 0 → false = Option.isSome (aopenD l0) ∧ [] = Option.getD (aopenD l0) []) ∧ (¬5 < List.getD l0 (Int.toNat 0) 0 → (0 : Int) ≤ 0 ∧ 0 <
    (↑(List.length l0) : Int) ∧ ((-9223372036854775808 : Int) ≤ 2 * List.getD l0 (Int.toNat 0) 0 ∧ 2 * List.getD l0 (Int.toNat 0) (0 : Int) ≤ (9223372036854775807 : Int)) ∧ ((-9223372036854775808 : Int) ≤ 1 + 2 * List.getD l0 (Int.toNat 0) 0 ∧ 1 + 2 * List.getD l0 (Int.toNat
    0) (0 : Int) ≤ (9223372036854775807 : Int)) ∧ ((↑(List.length l0) : Int) < 1 + 2 * List.getD l0 (Int.toNat 0) 0 → false = Option.isSome (aopenD l0) ∧ [] = Option.getD (aopenD l0) []) ∧ (¬(↑(List.length l0) : Int) < 1 + 2 * List.getD l0 (Int.toNat 0) 0 → (0 : Int) ≤ 0 ∧ 0 < (↑(List.length l0) : Int) ∧ ((-9223372036854775808 : Int) ≤ 2 * List.getD l0 (Int.toNat 0) 0 ∧ 2 * List.getD l0 (Int.toNat 0) (0 : Int) ≤ (9223372036854775807 : Int)) ∧ ((-9223372036854775808 : Int) ≤ 1 + 2 * List.getD l0 (Int.toNat 0) 0 ∧ 1 + 2 * List.getD l0
    (Int.toNat 0) (0 : Int) ≤ (9223372036854775807 : Int)) ∧ (0 : Int) ≤ 0 ∧ 0 < (↑(List.length l0) : Int) ∧ ∃ (I1 : List (Int × List Int) → Int → Int → Prop), ∃ (m2 : List (Int × List Int) → Int → Int → Nat), I1 [] (1 + 2 * List.getD l0 (Int.toNat 0) 0) 0 ∧ ∀ (l3 :
    List (Int × List Int)) (n4 n5 : Int), I1 l3 n4 n5 → (n5 < List.getD l0 (Int.toNat 0) 0 → 0 ≤ n4 ∧ n4 ≤ (↑(List.length l0) : Int) ∧ (↑(List.length (List.drop (Int.toNat n4) l0)) : Int) ≤ 1099511627776 ∧ ∀ (l6 : List Int) (n7 : Int), (true =
    Option.isSome (openD (List.drop (Int.toNat n4) l0)) ∧ (l6, n7) = Option.getD (openD (List.drop (Int.toNat n4) l0)) ([], 0) → ((-9223372036854775808 : Int) ≤ 2 * n5 ∧ 2 * n5 ≤ (9223372036854775807 : Int)) ∧ ((-9223372036854775808 : Int) ≤ 1 + 2 * n5 ∧ 1 + 2 * n5 ≤
    (9223372036854775807 : Int)) ∧ (0 : Int) ≤ 1 + 2 * n5 ∧ 1 + 2 * n5 < (↑(List.length l0) : Int) ∧ (↑(List.length l3 + List.length [(List.getD l0 (Int.toNat (1 + 2 * n5)) 0, l6)]) : Int) ≤ 1099511627776 ∧ (-9223372036854775808 ≤ n4 + n7 ∧ n4 + n7 ≤
    (9223372036854775807 : Int)) ∧ (-9223372036854775808 ≤ n5 + 1 ∧ n5 + (1 : Int) ≤ (9223372036854775807 : Int)) ∧ I1 (l3 ++ [(List.getD l0 (Int.toNat (1 + 2 * n5)) 0, l6)]) (n4 + n7) (n5 + 1) ∧ m2 (l3 ++ [(List.getD l0 (Int.toNat (1 + 2 * n5)) 0, l6)]) (n4 + n7) (n5
    + 1) < m2 l3 n4 n5) ∧ (false = Option.isSome (openD (List.drop (Int.toNat n4) l0)) ∧ (l6, n7) = Option.getD (openD (List.drop (Int.toNat n4) l0)) ([], 0) → false = Option.isSome (aopenD l0) ∧ [] = Option.getD (aopenD l0) [])) ∧ (¬n5 <
    List.getD l0 (Int.toNat 0) 0 → szE l3 ≤ 2000000 ∧ ∀ (l8 : List Int), (true = entOk l3 ∧ l8 = Option.getD (archD l3) [] → ((↑(List.length l8) : Int) ≤ 1099511627776 ∧ (↑(List.length l0) : Int) ≤ 1099511627776) ∧ (true = decide (l8 = l0) →
    true = Option.isSome (aopenD l0) ∧ l3 = Option.getD (aopenD l0) []) ∧ (false = decide (l8 = l0) → false = Option.isSome (aopenD l0) ∧ [] = Option.getD (aopenD l0) [])) ∧ (false = entOk l3 ∧ l8 = Option.getD (archD l3) [] → false =
    Option.isSome (aopenD l0) ∧ [] = Option.getD (aopenD l0) [])))))) ∧ (false = allIn 0 255 l0 → false = Option.isSome (aopenD l0) ∧ [] = Option.getD (aopenD l0) [])
theorem v_i_ArchiveOpen : V_i_ArchiveOpen := by
  unfold V_i_ArchiveOpen
  intro b hz
  have no : aopenD b = none → (false = (aopenD b).isSome ∧ ([] : List En) = (aopenD b).getD []) := fun h => by rw [h]; exact ⟨rfl, rfl⟩
  have e0 : b.getD (Int.toNat 0) 0 = b.getD 0 0 := rfl
  rw [e0]
  refine ⟨hz, fun hb => ⟨fun h0 => no (if_neg (fun q => by simp only [Bool.and_eq_true, decide_eq_true_eq] at q; omega)), fun h0 => ?_⟩, fun hb => no (if_neg (fun q => by rw [← hb] at q; simp at q))⟩
  have hn := allIn_iff.1 hb.symm _ (at_mem (i := 0) (by omega) (by omega))
  rw [e0] at hn
  have hdef : aopenD b = if (allIn 0 255 b && decide (1 ≤ b.length) && decide (b.getD 0 0 ≤ 5) && decide (1 + 2 * b.getD 0 0 ≤ (b.length : Int))) = true then
    (readE b (b.getD 0 0).toNat 0 (1 + 2 * b.getD 0 0)).bind fun es => if archD es = some b then some es else none
    else none := rfl
  rw [← hb, decide_eq_true (show 1 ≤ b.length by omega)] at hdef
  generalize b.getD 0 0 = n at *
  refine ⟨by omega, by omega, fun h5 => no (by rw [hdef, if_neg (by simp; omega)]), fun h5 => ⟨by omega, by omega, by omega, by omega, fun hs => no (by rw [hdef, if_neg (by simp; omega)]), fun hs => ⟨by omega, by omega, by omega, by omega, by omega, by omega, ?_⟩⟩⟩
  rw [if_pos (by simp; omega)] at hdef
  refine ⟨fun o a i => 0 ≤ i ∧ i ≤ n ∧ 1 + 2 * n ≤ a ∧ a ≤ b.length ∧ (o.length : Int) = i ∧ (∀ x ∈ o, (x.2 : List Int).length ≤ 40) ∧ readE b n.toNat 0 (1 + 2 * n) = (readE b (n - i).toNat i a).map (fun es => o ++ es), fun o a i => (n - i).toNat, ?_, ?_⟩ <;> dsimp only
  · exact ⟨by omega, by omega, by omega, by omega, by simp, by simp, by rw [Int.sub_zero]; simp⟩
  rintro o a i ⟨i0, i1, a0, a1, ol, ho, hI⟩
  refine ⟨fun hi => ?_, fun hi => ?_⟩
  · rw [show (n - i).toNat = (n - (i + 1)).toNat + 1 by omega, readE] at hI
    have hdl : ((b.drop a.toNat).length : Int) = b.length - a := by simp; omega
    refine ⟨by omega, a1, by omega, fun l m => ⟨?_, ?_⟩⟩
    · rintro ⟨q, hlm⟩
      obtain ⟨p, hp⟩ := some_of q
      rw [hp] at hI hlm
      simp only [Option.getD_some] at hlm
      subst hlm
      obtain ⟨q1, q2, q3, q4⟩ := openD_nn hp
      rw [hdl] at q3
      simp only [Option.bind_some, Option.map_map] at hI
      refine ⟨by omega, by omega, by omega, by omega, by simp; omega, by omega, by omega, ⟨by omega, by omega, by omega, by omega, by simp; omega, ?_, ?_⟩, by omega⟩
      · intro x hx
        rcases List.mem_append.1 hx with hx | hx
        · exact ho x hx
        · rw [List.mem_singleton] at hx; subst hx; exact q4
      · rw [hI]
        congr 1
        funext es
        simp
    · rintro ⟨q, _⟩
      rw [none_of q] at hI
      exact no (by rw [hdef, hI]; rfl)
  · rw [show (n - i).toNat = 0 by omega, readE] at hI
    rw [hI] at hdef
    simp only [Option.map_some, List.append_nil, Option.bind_some] at hdef
    have hsz := szE_small ho
    refine ⟨by omega, fun r => ⟨?_, ?_⟩⟩
    · rintro ⟨hok, rfl⟩
      have hA : archD o = some (packE o) := if_pos hok.symm
      have hpl := packE_len hok.symm
      rw [hA] at hdef ⊢
      simp only [Option.getD_some, Option.some.injEq] at hdef ⊢
      refine ⟨⟨by omega, hz⟩, fun he => ?_, fun he => no (by rw [hdef, if_neg (fun q => by rw [decide_eq_true q] at he; cases he)])⟩
      simp only [true_eq_decide_iff] at he
      rw [hdef, if_pos he]; exact ⟨rfl, rfl⟩
    · rintro ⟨hok, rfl⟩
      have hA : archD o = none := if_neg (by rw [← hok]; simp)
      exact no (by rw [hdef, hA, if_neg (by simp)])
def V_s_ArchiveOpen : Prop :=
  ∀ (l0 : List Int), (↑(List.length l0) : Int) ≤ 1099511627776 → (↑(List.length l0) : Int) ≤ 1099511627776 ∧ (true = allIn 0 255 l0 → ((↑(List.length l0) : Int) = 0 → false = Option.isSome (aopenD l0) ∧ [] = Option.getD (aopenD l0) []) ∧
    (¬(↑(List.length l0) : Int) = 0 → ((↑(List.length l0) : Int) ≤ 1099511627776 ∧ allIn 0 255 l0 = true ∧ 1 ≤ (↑(List.length l0) : Int)) ∧ ∀ (l1 : List (Int × List Int)), l1 = readS l0 (Int.toNat (min (List.getD l0 0 0) 5)) 0 (1 + 2 * List.getD
    l0 0 0) → szE l1 ≤ 2000000 ∧ ∀ (l2 : List Int), (true = entOk l1 ∧ l2 = Option.getD (archD l1) [] → ((↑(List.length l2) : Int) ≤ 1099511627776 ∧ (↑(List.length l0) : Int) ≤ 1099511627776) ∧ (true = decide (l2 = l0) → true = Option.isSome
    (aopenD l0) ∧ l1 = Option.getD (aopenD l0) []) ∧ (false = decide (l2 = l0) → false = Option.isSome (aopenD l0) ∧ [] = Option.getD (aopenD l0) [])) ∧ (false = entOk l1 ∧ l2 = Option.getD (archD l1) [] → false = Option.isSome (aopenD l0) ∧ []
    = Option.getD (aopenD l0) []))) ∧ (false = allIn 0 255 l0 → false = Option.isSome (aopenD l0) ∧ [] = Option.getD (aopenD l0) [])
theorem v_s_ArchiveOpen : V_s_ArchiveOpen := by
  unfold V_s_ArchiveOpen
  intro b hz
  rw [← aopenS_same]
  have no : aopenS b = none → (false = (aopenS b).isSome ∧ ([] : List En) = (aopenS b).getD []) := fun h => by rw [h]; exact ⟨rfl, rfl⟩
  refine ⟨hz, fun hb => ⟨fun h0 => no (if_neg (fun q => by simp only [Bool.and_eq_true, decide_eq_true_eq] at q; omega)), fun h0 => ⟨⟨hz, hb.symm, by omega⟩, ?_⟩⟩, fun hb => no (if_neg (fun q => by rw [← hb] at q; simp at q))⟩
  have hdef : aopenS b = if archD (readS b (min (b.getD 0 0) 5).toNat 0 (1 + 2 * b.getD 0 0)) = some b then some (readS b (min (b.getD 0 0) 5).toNat 0 (1 + 2 * b.getD 0 0)) else none := if_pos (by rw [← hb, decide_eq_true (show 1 ≤ b.length by omega)]; rfl)
  obtain ⟨r1, r2⟩ := readS_small b (min (b.getD 0 0) 5).toNat 0 (1 + 2 * b.getD 0 0)
  rintro o rfl
  have hsz := szE_small r1
  generalize readS b (min (b.getD 0 0) 5).toNat 0 (1 + 2 * b.getD 0 0) = o at *
  refine ⟨by omega, fun r => ⟨?_, ?_⟩⟩
  · rintro ⟨hok, rfl⟩
    have hA : archD o = some (packE o) := if_pos hok.symm
    have hpl := packE_len hok.symm
    rw [hA] at hdef ⊢
    simp only [Option.getD_some, Option.some.injEq] at hdef ⊢
    refine ⟨⟨by omega, hz⟩, fun he => ?_, fun he => no (by rw [hdef, if_neg (fun q => by rw [decide_eq_true q] at he; cases he)])⟩
    simp only [true_eq_decide_iff] at he
    rw [hdef, if_pos he]; exact ⟨rfl, rfl⟩
  · rintro ⟨hok, rfl⟩
    have hA : archD o = none := if_neg (by rw [← hok]; simp)
    exact no (by rw [hdef, hA, if_neg (by simp)])
def V_i_ArchiveGet : Prop :=
  ∀ (l0 : List Int) (n1 : Int), (↑(List.length l0) : Int) ≤ 1099511627776 → (↑(List.length l0) : Int) ≤ 1099511627776 ∧ ∀ (l2 : List (Int × List Int)), (true = Option.isSome (aopenD l0) ∧ l2 = Option.getD (aopenD l0) [] → ∃ (I3 : Int → Prop),
    ∃ (m4 : Int → Nat), I3 0 ∧ ∀ (n5 : Int), I3 n5 → (n5 < (↑(List.length l2) : Int) → 0 ≤ n5 ∧ n5 < (↑(List.length l2) : Int) ∧ Int.toNat n5 < List.length l2 ∧ (Prod.fst (List.getD l2 (Int.toNat n5) (0, [])) = n1 → (↑(List.length (Prod.snd
    (List.getD l2 (Int.toNat n5) (0, [])))) : Int) ≤ 1099511627776 ∧ ∀ (l6 : List Int), l6 = Prod.snd (List.getD l2 (Int.toNat n5) (0, [])) → true = Option.isSome (getD' l0 n1) ∧ l6 = Option.getD (getD' l0 n1) []) ∧ (¬Prod.fst (List.getD l2
    (Int.toNat n5) (0, [])) = n1 → (-9223372036854775808 ≤ n5 + 1 ∧ n5 + (1 : Int) ≤ (9223372036854775807 : Int)) ∧ I3 (n5 + 1) ∧ m4 (n5 + 1) < m4 n5)) ∧ (¬n5 < (↑(List.length l2) : Int) → false = Option.isSome (getD' l0 n1) ∧ [] = Option.getD (getD' l0 n1)
    [])) ∧ (false = Option.isSome (aopenD l0) ∧ l2 = Option.getD (aopenD l0) [] → ∃ (I7 : Int → Prop), ∃ (m8 : Int → Nat), I7 0 ∧ ∀ (n9 : Int), I7 n9 → (n9 < (↑(List.length l2) : Int) → 0 ≤ n9 ∧ n9 < (↑(List.length l2) : Int) ∧ Int.toNat n9 <
    List.length l2 ∧ (Prod.fst (List.getD l2 (Int.toNat n9) (0, [])) = n1 → (↑(List.length (Prod.snd (List.getD l2 (Int.toNat n9) (0, [])))) : Int) ≤ 1099511627776 ∧ ∀ (l10 : List Int), l10 = Prod.snd (List.getD l2 (Int.toNat n9) (0, [])) → true
    = Option.isSome (getD' l0 n1) ∧ l10 = Option.getD (getD' l0 n1) []) ∧ (¬Prod.fst (List.getD l2 (Int.toNat n9) (0, [])) = n1 → (-9223372036854775808 ≤ n9 + 1 ∧ n9 + (1 : Int) ≤ (9223372036854775807 : Int)) ∧ I7 (n9 + 1) ∧ m8 (n9 + 1) < m8 n9)) ∧ (¬n9 <
    (↑(List.length l2) : Int) → false = Option.isSome (getD' l0 n1) ∧ [] = Option.getD (getD' l0 n1) []))
theorem v_i_ArchiveGet : V_i_ArchiveGet := by
  unfold V_i_ArchiveGet
  intro b n hz
  refine ⟨hz, fun es => ⟨?_, ?_⟩⟩
  · rintro ⟨q, rfl⟩
    obtain ⟨es, hes⟩ := some_of q
    have hg := getD'_some (n := n) hes
    obtain ⟨f1, f2, f3, f4, f5⟩ := aopen_facts hes
    rw [hg, hes]
    simp only [Option.getD_some]
    refine ⟨fun i => 0 ≤ i ∧ i ≤ es.length ∧ findE n (es.drop i.toNat) = findE n es, fun i => (es.length - i).toNat, ?_, ?_⟩ <;> dsimp only
    · exact ⟨by omega, by omega, rfl⟩
    rintro i ⟨i0, i1, hI⟩
    refine ⟨fun hlt => ?_, fun hge => by rw [find_end hge] at hI; rw [← hI]; exact ⟨rfl, rfl⟩⟩
    rw [find_step i0 hlt] at hI
    have hl40 := LV_len (ent_at f1 i0 hlt).1
    refine ⟨i0, hlt, by omega, fun he => ⟨by omega, ?_⟩, fun hne => ?_⟩
    · rintro r rfl
      rw [if_pos he] at hI; rw [← hI]; exact ⟨rfl, rfl⟩
    · rw [if_neg hne] at hI
      exact ⟨by omega, ⟨by omega, by omega, hI⟩, by omega⟩
  · rintro ⟨q, rfl⟩
    have hg := getD'_none (n := n) (none_of q)
    rw [none_of q]
    simp only [Option.getD_none]
    have hnil : (([] : List En).length : Int) = 0 := rfl
    refine ⟨fun i => i = 0, fun i => 0, ?_, ?_⟩ <;> dsimp only
    rintro i rfl
    exact ⟨fun q => by simp at q, fun _ => by rw [hg]; exact ⟨rfl, rfl⟩⟩
def V_s_ArchiveGet : Prop :=
  ∀ (l0 : List Int) (n1 : Int), (↑(List.length l0) : Int) ≤ 1099511627776 → (↑(List.length l0) : Int) ≤ 1099511627776 ∧ ∀ (l2 : List (Int × List Int)), (true = Option.isSome (aopenD l0) ∧ l2 = Option.getD (aopenD l0) [] → ∃ (I3 : Int → Prop),
    ∃ (m4 : Int → Nat), I3 0 ∧ ∀ (n5 : Int), I3 n5 → (n5 < (↑(List.length l2) : Int) → 0 ≤ n5 ∧ n5 < (↑(List.length l2) : Int) ∧ Int.toNat n5 < List.length l2 ∧ (Prod.fst (List.getD l2 (Int.toNat n5) (0, [])) = n1 → 0 ≤ n5 ∧ n5 < (↑(List.length
    l2) : Int) ∧ Int.toNat n5 < List.length l2 ∧ true = Option.isSome (getD' l0 n1) ∧ Prod.snd (List.getD l2 (Int.toNat n5) (0, [])) = Option.getD (getD' l0 n1) []) ∧ (¬Prod.fst (List.getD l2 (Int.toNat n5) (0, [])) = n1 → (-9223372036854775808
    ≤ n5 + 1 ∧ n5 + (1 : Int) ≤ (9223372036854775807 : Int)) ∧ I3 (n5 + 1) ∧ m4 (n5 + 1) < m4 n5)) ∧ (¬n5 < (↑(List.length l2) : Int) → false = Option.isSome (getD' l0 n1) ∧ [] = Option.getD (getD' l0 n1) [])) ∧ (false = Option.isSome (aopenD l0) ∧ l2 =
    Option.getD (aopenD l0) [] → ∃ (I6 : Int → Prop), ∃ (m7 : Int → Nat), I6 0 ∧ ∀ (n8 : Int), I6 n8 → (n8 < (↑(List.length l2) : Int) → false = Option.isSome (getD' l0 n1) ∧ [] = Option.getD (getD' l0 n1) []) ∧ (¬n8 < (↑(List.length l2) : Int)
    → false = Option.isSome (getD' l0 n1) ∧ [] = Option.getD (getD' l0 n1) []))
theorem v_s_ArchiveGet : V_s_ArchiveGet := by
  unfold V_s_ArchiveGet
  intro b n hz
  refine ⟨hz, fun es => ⟨?_, ?_⟩⟩
  · rintro ⟨q, rfl⟩
    obtain ⟨es, hes⟩ := some_of q
    have hg := getD'_some (n := n) hes
    obtain ⟨f1, f2, f3, f4, f5⟩ := aopen_facts hes
    rw [hg, hes]
    simp only [Option.getD_some]
    refine ⟨fun i => 0 ≤ i ∧ i ≤ es.length ∧ findE n (es.drop i.toNat) = findE n es, fun i => (es.length - i).toNat, ?_, ?_⟩ <;> dsimp only
    · exact ⟨by omega, by omega, rfl⟩
    rintro i ⟨i0, i1, hI⟩
    refine ⟨fun hlt => ?_, fun hge => by rw [find_end hge] at hI; rw [← hI]; exact ⟨rfl, rfl⟩⟩
    rw [find_step i0 hlt] at hI
    have hl40 := LV_len (ent_at f1 i0 hlt).1
    refine ⟨i0, hlt, by omega, fun he => ⟨i0, hlt, by omega, ?_⟩, fun hne => ?_⟩
    · rw [if_pos he] at hI; rw [← hI]; exact ⟨rfl, rfl⟩
    · rw [if_neg hne] at hI
      exact ⟨by omega, ⟨by omega, by omega, hI⟩, by omega⟩
  · rintro ⟨q, rfl⟩
    have hg := getD'_none (n := n) (none_of q)
    rw [none_of q]
    simp only [Option.getD_none]
    refine ⟨fun i => i = 0, fun i => 0, ?_, ?_⟩ <;> dsimp only
    rintro i rfl
    exact ⟨fun _ => by rw [hg]; exact ⟨rfl, rfl⟩, fun _ => by rw [hg]; exact ⟨rfl, rfl⟩⟩
def V_s_l92Damage : Prop :=
  ∀ (l0 : List UInt8) (n1 : Int) (l2 : List Int), (↑(List.length l0) : Int) ≤ 1099511627776 ∧ 0 ≤ n1 ∧ n1 ≤ 900000000 ∧ (↑(List.length l2) : Int) ≤ 5000 → ((↑(List.length l2) : Int) = 0 → l0 = l0 ∧ n1 ≤ n1 ∧ n1 ≤ n1 + 10 ∧ (↑(List.length l2) :
    Int) ≤ 5001) ∧ (¬(↑(List.length l2) : Int) = 0 → ((↑(List.length l0) : Int) ≤ 1099511627776 ∧ 0 ≤ n1 ∧ n1 ≤ 1000000000) ∧ ∀ (l3 : List UInt8) (n4 n5 : Int), l0 = l3 ∧ n4 = n1 + 1 ∧ 0 ≤ n5 ∧ (1 ≤ (↑(List.length l2) : Int) → n5 <
    (↑(List.length l2) : Int)) → ((↑(List.length l3) : Int) ≤ 1099511627776 ∧ 0 ≤ n4 ∧ n4 ≤ 1000000000) ∧ ∀ (l6 : List UInt8) (n7 n8 : Int), l3 = l6 ∧ n7 = n4 + 1 ∧ 0 ≤ n8 ∧ ((1 : Int) ≤ 8 → n8 < 8) → (n8 = 0 → 0 ≤ n5 ∧ n5 ≤ (↑(List.length l2) : Int) ∧
    (↑(0 + List.length (List.take (Int.toNat n5) l2)) : Int) ≤ 1099511627776 ∧ l0 = l6 ∧ n1 ≤ n7 ∧ n7 ≤ n1 + 10 ∧ (↑(List.length (List.take (Int.toNat n5) l2)) : Int) ≤ 5001) ∧ (¬n8 = 0 → (n8 = 1 → (↑(0 + List.length l2) : Int) ≤ 1099511627776 ∧
    ((↑(List.length l6) : Int) ≤ 1099511627776 ∧ 0 ≤ n7 ∧ n7 ≤ 1000000000) ∧ ∀ (l9 : List UInt8) (n10 n11 : Int), l6 = l9 ∧ n10 = n7 + 1 ∧ 0 ≤ n11 ∧ ((1 : Int) ≤ 258 → n11 < 258) → (-9223372036854775808 ≤ n11 - 1 ∧ n11 - (1 : Int) ≤ (9223372036854775807 : Int)) ∧ 0 ≤
    n5 ∧ n5 < (↑(List.length l2) : Int) ∧ Int.toNat n5 < List.length l2 ∧ l0 = l9 ∧ n1 ≤ n10 ∧ n10 ≤ n1 + 10 ∧ (↑(List.length (List.set l2 (Int.toNat n5) (n11 - 1))) : Int) ≤ 5001) ∧ (¬n8 = 1 → (n8 = 2 → (↑(0 + List.length l2) : Int) ≤
    1099511627776 ∧ ((↑(List.length l6) : Int) ≤ 1099511627776 ∧ 0 ≤ n7 ∧ n7 ≤ 1000000000) ∧ ∀ (l12 : List UInt8) (n13 n14 : Int), l6 = l12 ∧ n13 = n7 + 1 ∧ 0 ≤ n14 ∧ ((1 : Int) ≤ 9 → n14 < 9) → (↑(List.length l2 + List.length [n14]) : Int) ≤
    1099511627776 ∧ l0 = l12 ∧ n1 ≤ n13 ∧ n13 ≤ n1 + 10 ∧ (↑(List.length (l2 ++ [n14])) : Int) ≤ 5001) ∧ (¬n8 = 2 → l0 = l6 ∧ n1 ≤ n7 ∧ n7 ≤ n1 + 10 ∧ (↑(List.length l2) : Int) ≤ 5001))))
theorem v_s_l92Damage : V_s_l92Damage := by
  unfold V_s_l92Damage
  rintro b p l ⟨hb, h0, h1, hl⟩
  refine ⟨fun h => ⟨rfl, by omega, by omega, by omega⟩, fun hne => ⟨⟨hb, by omega, by omega⟩, ?_⟩⟩
  rintro b1 p1 k ⟨rfl, rfl, k0, k1⟩
  refine ⟨⟨hb, by omega, by omega⟩, ?_⟩
  rintro b2 p2 w ⟨rfl, rfl, w0, w1⟩
  have htl : (l.take k.toNat).length ≤ l.length := by simp; omega
  refine ⟨fun _ => ⟨k0, by omega, by omega, rfl, by omega, by omega, by omega⟩, fun _ => ⟨fun _ => ⟨by omega, ⟨hb, by omega, by omega⟩, ?_⟩, fun _ => ⟨fun _ => ⟨by omega, ⟨hb, by omega, by omega⟩, ?_⟩, fun _ => ⟨rfl, by omega, by omega, by omega⟩⟩⟩⟩
  · rintro b3 p3 x ⟨rfl, rfl, x0, x1⟩
    exact ⟨by omega, k0, by omega, by omega, rfl, by omega, by omega, by simp; omega⟩
  · rintro b3 p3 x ⟨rfl, rfl, x0, x1⟩
    exact ⟨by simp; omega, rfl, by omega, by omega, by simp; omega⟩
def V_s_DrawArchivePack : Prop :=
  ∀ (l0 : List UInt8), (↑(List.length l0) : Int) ≤ 1099511627776 → (↑(List.length l0) : Int) ≤ 1099511627776 ∧ ∀ (l1 : List UInt8) (n2 : Int), n2 = 0 ∧ (↑(List.length l1) : Int) ≤ 2000 → ((↑(List.length l1) : Int) ≤ 1099511627776 ∧ 0 ≤ n2 ∧ n2
    ≤ 500000000) ∧ ∀ (l3 : List UInt8) (n4 : Int) (l5 : List (Int × List Int)), l1 = l3 ∧ n2 ≤ n4 ∧ n4 ≤ n2 + 110000 ∧ (↑(List.length l5) : Int) ≤ 7 ∧ szE l5 ≤ 5000 → (↑(List.length l5) : Int) ≤ 7 ∧ szE l5 ≤ 5000
theorem v_s_DrawArchivePack : V_s_DrawArchivePack := by
  unfold V_s_DrawArchivePack
  intro l hz
  refine ⟨hz, ?_⟩
  rintro b p ⟨rfl, hb⟩
  refine ⟨by omega, ?_⟩
  intro b' p' out h
  exact ⟨h.2.2.2.1, h.2.2.2.2⟩
def V_s_DrawArchiveOpen : Prop :=
  ∀ (l0 : List UInt8), (↑(List.length l0) : Int) ≤ 1099511627776 → (↑(List.length l0) : Int) ≤ 1099511627776 ∧ ∀ (l1 : List UInt8) (n2 : Int), n2 = 0 ∧ (↑(List.length l1) : Int) ≤ 2000 → ((↑(List.length l1) : Int) ≤ 1099511627776 ∧ 0 ≤ n2 ∧ n2
    ≤ 500000000) ∧ ∀ (l3 : List UInt8) (n4 : Int) (l5 : List (Int × List Int)), l1 = l3 ∧ n2 ≤ n4 ∧ n4 ≤ n2 + 110000 ∧ (↑(List.length l5) : Int) ≤ 7 ∧ szE l5 ≤ 5000 → szE l5 ≤ 2000000 ∧ ∀ (l6 : List Int), (true = entOk l5 ∧ l6 = Option.getD
    (archD l5) [] → ((↑(List.length l3) : Int) ≤ 1099511627776 ∧ 0 ≤ n4 ∧ n4 ≤ 900000000 ∧ (↑(List.length l6) : Int) ≤ 5000) ∧ ∀ (l7 : List UInt8) (n8 : Int) (l9 : List Int), l3 = l7 ∧ n4 ≤ n8 ∧ n8 ≤ n4 + 10 ∧ (↑(List.length l9) : Int) ≤ 5001 →
    (↑(List.length l9) : Int) ≤ 5001) ∧ (false = entOk l5 ∧ l6 = Option.getD (archD l5) [] → ((↑(List.length l3) : Int) ≤ 1099511627776 ∧ 0 ≤ n4 ∧ n4 ≤ 900000000 ∧ (↑(List.length l6) : Int) ≤ 5000) ∧ ∀ (l10 : List UInt8) (n11 : Int) (l12 : List
    Int), l3 = l10 ∧ n4 ≤ n11 ∧ n11 ≤ n4 + 10 ∧ (↑(List.length l12) : Int) ≤ 5001 → (↑(List.length l12) : Int) ≤ 5001)
theorem v_s_DrawArchiveOpen : V_s_DrawArchiveOpen := by
  unfold V_s_DrawArchiveOpen
  intro l hz
  refine ⟨hz, ?_⟩
  rintro b p ⟨rfl, hb⟩
  refine ⟨by omega, ?_⟩
  rintro b' p' es ⟨rfl, h1, h2, h3, h4⟩
  refine ⟨by omega, fun r => ⟨?_, ?_⟩⟩
  · rintro ⟨hok, rfl⟩
    have hpl := packE_len hok.symm
    have hA : archD es = some (packE es) := if_pos hok.symm
    rw [hA]
    refine ⟨⟨by omega, by omega, by omega, by simp only [Option.getD_some]; omega⟩, ?_⟩
    rintro b2 p2 o ⟨rfl, _, _, h⟩
    exact h
  · rintro ⟨hok, rfl⟩
    have hA : archD es = none := if_neg (by rw [← hok]; simp)
    rw [hA]
    refine ⟨⟨by omega, by omega, by omega, by simp⟩, ?_⟩
    rintro b2 p2 o ⟨rfl, _, _, h⟩
    exact h
def V_s_DrawArchiveGet : Prop :=
  ∀ (l0 : List UInt8), (↑(List.length l0) : Int) ≤ 1099511627776 → (↑(List.length l0) : Int) ≤ 1099511627776 ∧ ∀ (l1 : List UInt8) (n2 : Int), n2 = 0 ∧ (↑(List.length l1) : Int) ≤ 2000 → ((↑(List.length l1) : Int) ≤ 1099511627776 ∧ 0 ≤ n2 ∧ n2
    ≤ 500000000) ∧ ∀ (l3 : List UInt8) (n4 : Int) (l5 : List (Int × List Int)), l1 = l3 ∧ n2 ≤ n4 ∧ n4 ≤ n2 + 110000 ∧ (↑(List.length l5) : Int) ≤ 7 ∧ szE l5 ≤ 5000 → szE l5 ≤ 2000000 ∧ ∀ (l6 : List Int), (true = entOk l5 ∧ l6 = Option.getD
    (archD l5) [] → (0 < (↑(List.length l5) : Int) → ((↑(List.length l3) : Int) ≤ 1099511627776 ∧ 0 ≤ n4 ∧ n4 ≤ 1000000000) ∧ ∀ (l7 : List UInt8) (n8 n9 : Int), l3 = l7 ∧ n8 = n4 + 1 ∧ 0 ≤ n9 ∧ ((1 : Int) ≤ 6 → n9 < 6) → (0 < n9 → (∃ (xs : List UInt8),
    ∃ (n : Int), ∃ (xs_1 : List Int), l7 = xs ∧ n8 ≤ n ∧ n ≤ n8 + 10 ∧ (↑(List.length xs_1) : Int) ≤ 5001) ∧ ((↑(List.length l7) : Int) ≤ 1099511627776 ∧ 0 ≤ n8 ∧ n8 ≤ 900000000 ∧ (↑(List.length l6) : Int) ≤ 5000) ∧ ∀ (l10 : List UInt8) (n11 :
    Int) (l12 : List Int), l7 = l10 ∧ n8 ≤ n11 ∧ n11 ≤ n8 + 10 ∧ (↑(List.length l12) : Int) ≤ 5001 → (∃ (xs : List UInt8), ∃ (n : Int), ∃ (n_1 : Int), l10 = xs ∧ n = n11 + 1 ∧ 0 ≤ n_1 ∧ (1 ≤ (↑(List.length l5) : Int) → n_1 < (↑(List.length l5) :
    Int))) ∧ ((↑(List.length l10) : Int) ≤ 1099511627776 ∧ 0 ≤ n11 ∧ n11 ≤ 1000000000) ∧ ∀ (l13 : List UInt8) (n14 n15 : Int), l10 = l13 ∧ n14 = n11 + 1 ∧ 0 ≤ n15 ∧ (1 ≤ (↑(List.length l5) : Int) → n15 < (↑(List.length l5) : Int)) → 0 ≤ n15 ∧
    n15 < (↑(List.length l5) : Int) ∧ Int.toNat n15 < List.length l5 ∧ (↑(List.length l12) : Int) ≤ 5001) ∧ (¬0 < n9 → ((↑(List.length l7) : Int) ≤ 1099511627776 ∧ 0 ≤ n8 ∧ n8 ≤ 900000000 ∧ (↑(List.length l6) : Int) ≤ 5000) ∧ ∀ (l16 : List
    UInt8) (n17 : Int) (l18 : List Int), l7 = l16 ∧ n8 ≤ n17 ∧ n17 ≤ n8 + 10 ∧ (↑(List.length l18) : Int) ≤ 5001 → ((↑(List.length l16) : Int) ≤ 1099511627776 ∧ 0 ≤ n17 ∧ n17 ≤ 1000000000) ∧ ∀ (l19 : List UInt8) (n20 n21 : Int), l16 = l19 ∧ n20
    = n17 + 1 ∧ 0 ≤ n21 ∧ ((1 : Int) ≤ 22 → n21 < 22) → (↑(List.length l18) : Int) ≤ 5001)) ∧ (¬0 < (↑(List.length l5) : Int) → ((↑(List.length l3) : Int) ≤ 1099511627776 ∧ 0 ≤ n4 ∧ n4 ≤ 900000000 ∧ (↑(List.length l6) : Int) ≤ 5000) ∧ ∀ (l22 : List
    UInt8) (n23 : Int) (l24 : List Int), l3 = l22 ∧ n4 ≤ n23 ∧ n23 ≤ n4 + 10 ∧ (↑(List.length l24) : Int) ≤ 5001 → ((↑(List.length l22) : Int) ≤ 1099511627776 ∧ 0 ≤ n23 ∧ n23 ≤ 1000000000) ∧ ∀ (l25 : List UInt8) (n26 n27 : Int), l22 = l25 ∧ n26
    = n23 + 1 ∧ 0 ≤ n27 ∧ ((1 : Int) ≤ 22 → n27 < 22) → (↑(List.length l24) : Int) ≤ 5001)) ∧ (false = entOk l5 ∧ l6 = Option.getD (archD l5) [] → ((↑(List.length l3) : Int) ≤ 1099511627776 ∧ 0 ≤ n4 ∧ n4 ≤ 900000000 ∧ (↑(List.length l6) : Int) ≤ 5000) ∧
    ∀ (l28 : List UInt8) (n29 : Int) (l30 : List Int), l3 = l28 ∧ n4 ≤ n29 ∧ n29 ≤ n4 + 10 ∧ (↑(List.length l30) : Int) ≤ 5001 → ((↑(List.length l28) : Int) ≤ 1099511627776 ∧ 0 ≤ n29 ∧ n29 ≤ 1000000000) ∧ ∀ (l31 : List UInt8) (n32 n33 : Int),
    l28 = l31 ∧ n32 = n29 + 1 ∧ 0 ≤ n33 ∧ ((1 : Int) ≤ 22 → n33 < 22) → (↑(List.length l30) : Int) ≤ 5001)
theorem v_s_DrawArchiveGet : V_s_DrawArchiveGet := by
  unfold V_s_DrawArchiveGet
  intro l hz
  refine ⟨hz, ?_⟩
  rintro b p ⟨rfl, hb⟩
  refine ⟨by omega, ?_⟩
  rintro b' p' es ⟨rfl, h1, h2, h3, h4⟩
  have hpl := archD_len es
  refine ⟨by omega, fun r => ⟨?_, ?_⟩⟩
  · rintro ⟨hok, rfl⟩
    refine ⟨fun h0 => ⟨⟨by omega, by omega, by omega⟩, ?_⟩, fun h0 => ⟨⟨by omega, by omega, by omega, by omega⟩, ?_⟩⟩
    · rintro b2 p2 k ⟨rfl, rfl, k0, k1⟩
      refine ⟨fun hk => ⟨⟨_, _, [], rfl, Int.le_refl _, by omega, by simp⟩, ⟨by omega, by omega, by omega, by omega⟩, ?_⟩, fun hk => ⟨⟨by omega, by omega, by omega, by omega⟩, ?_⟩⟩
      · rintro b3 p3 o ⟨rfl, q1, q2, q3⟩
        refine ⟨⟨_, _, 0, rfl, rfl, Int.le_refl _, fun q => by omega⟩, ⟨by omega, by omega, by omega⟩, ?_⟩
        rintro b4 p4 j ⟨rfl, rfl, j0, j1⟩
        exact ⟨j0, by omega, by omega, q3⟩
      · rintro b3 p3 o ⟨rfl, q1, q2, q3⟩
        refine ⟨⟨by omega, by omega, by omega⟩, ?_⟩
        rintro b4 p4 j ⟨rfl, rfl, j0, j1⟩
        exact q3
    · rintro b3 p3 o ⟨rfl, q1, q2, q3⟩
      refine ⟨⟨by omega, by omega, by omega⟩, ?_⟩
      rintro b4 p4 j ⟨rfl, rfl, j0, j1⟩
      exact q3
  · rintro ⟨hok, rfl⟩
    refine ⟨⟨by omega, by omega, by omega, by omega⟩, ?_⟩
    rintro b3 p3 o ⟨rfl, q1, q2, q3⟩
    refine ⟨⟨by omega, by omega, by omega⟩, ?_⟩
    rintro b4 p4 j ⟨rfl, rfl, j0, j1⟩
    exact q3
def V_l_sameEntries : Prop :=
  ∀ (l0 l1 : List (Int × List Int)), szE l0 ≤ 2000000 ∧ szE l1 ≤ 2000000 → ((↑(List.length l0) : Int) ≠ (↑(List.length l1) : Int) → false = decide (l0 = l1)) ∧ (¬(↑(List.length l0) : Int) ≠ (↑(List.length l1) : Int) → ∃ (I2 : Int → Prop), ∃
    (m3 : Int → Nat), I2 0 ∧ ∀ (n4 : Int), I2 n4 → (n4 < (↑(List.length l0) : Int) → 0 ≤ n4 ∧ n4 < (↑(List.length l0) : Int) ∧ 0 ≤ n4 ∧ n4 < (↑(List.length l1) : Int) ∧ (Prod.fst (List.getD l0 (Int.toNat n4) (0, [])) ≠ Prod.fst (List.getD l1
    (Int.toNat n4) (0, [])) → false = decide (l0 = l1)) ∧ (¬Prod.fst (List.getD l0 (Int.toNat n4) (0, [])) ≠ Prod.fst (List.getD l1 (Int.toNat n4) (0, [])) → 0 ≤ n4 ∧ n4 < (↑(List.length l0) : Int) ∧ 0 ≤ n4 ∧ n4 < (↑(List.length l1) : Int) ∧ (∃
    (b : Bool), b = decide (Prod.snd (List.getD l0 (Int.toNat n4) (0, [])) = Prod.snd (List.getD l1 (Int.toNat n4) (0, [])))) ∧ ((↑(List.length (Prod.snd (List.getD l0 (Int.toNat n4) (0, [])))) : Int) ≤ 1099511627776 ∧ (↑(List.length (Prod.snd
    (List.getD l1 (Int.toNat n4) (0, [])))) : Int) ≤ 1099511627776) ∧ (true = decide (Prod.snd (List.getD l0 (Int.toNat n4) (0, [])) = Prod.snd (List.getD l1 (Int.toNat n4) (0, []))) → (-9223372036854775808 ≤ n4 + 1 ∧ n4 + (1 : Int) ≤ (9223372036854775807 : Int)) ∧ I2 (n4 + 1) ∧ m3 (n4 + 1) < m3 n4) ∧ (false = decide (Prod.snd (List.getD l0 (Int.toNat n4) (0, [])) = Prod.snd (List.getD l1 (Int.toNat n4) (0, []))) → false = decide (l0 = l1)))) ∧ (¬n4 < (↑(List.length l0) : Int) →
    true = decide (l0 = l1)))
theorem v_l_sameEntries : V_l_sameEntries := by
  unfold V_l_sameEntries
  rintro a b ⟨ha, hb⟩
  have hsa := sumIn_nonneg a
  have hsb := sumIn_nonneg b
  have hla : (a.length : Int) ≤ 2000000 := by unfold szE at ha; omega
  refine ⟨fun h => ?_, fun h => ?_⟩
  · have : a ≠ b := fun e => h (by rw [e])
    simp [this]
  refine ⟨fun i => 0 ≤ i ∧ i ≤ a.length ∧ (a.drop i.toNat = b.drop i.toNat ↔ a = b), fun i => (a.length - i).toNat, ?_, ?_⟩ <;> dsimp only
  · simp
  rintro i ⟨h0, h1, h2⟩
  refine ⟨fun hlt => ?_, fun hge => ?_⟩
  · have e1 := ent_len h0 hlt
    have e2 := ent_len (l := b) h0 (by omega)
    rw [drop_lt (0, []) h0 hlt, drop_lt (0, []) h0 (show i < (b.length : Int) by omega), List.cons.injEq] at h2
    refine ⟨h0, hlt, h0, by omega, fun h => ?_, fun hn => ⟨h0, hlt, h0, by omega, ⟨_, rfl⟩, ⟨by omega, by omega⟩, fun h => ?_, fun h => ?_⟩⟩
    · have : ¬ a = b := fun e => h (congrArg Prod.fst (h2.2 e).1)
      simp [this]
    · simp only [true_eq_decide_iff] at h
      have hn' : (a.getD i.toNat (0, [])).1 = (b.getD i.toNat (0, [])).1 := by omega
      have he : a.getD i.toNat (0, []) = b.getD i.toNat (0, []) := Prod.ext hn' h
      exact ⟨by omega, ⟨by omega, by omega, by rw [← h2]; exact ⟨fun q => ⟨he, q⟩, fun q => q.2⟩⟩, by omega⟩
    · simp only [false_eq_decide_iff] at h
      have : ¬ a = b := fun e => h (congrArg Prod.snd (h2.2 e).1)
      simp [this]
  · rw [drop_ge hge, drop_ge (show ¬ i < (b.length : Int) by omega)] at h2
    simp [← h2]
end Go.Proofs.Ytmfamcaiimhaeaa
