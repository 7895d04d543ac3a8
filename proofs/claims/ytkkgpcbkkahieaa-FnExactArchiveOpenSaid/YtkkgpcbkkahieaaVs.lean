/-
  The conditions of functions, proved: s_arch.
-/
import Derived.Test.YtkkgpcbkkahieaaM
set_option linter.unusedVariables false
set_option linter.unusedSimpArgs false
open Go Go.Ax Go.Mx
namespace Go.Proofs.Ytkkgpcbkkahieaa
def V_s_l42Pack : Prop :=
  ∀ (l0 : List (Int × List Int)), entOk l0 = true → ∃ (I1 : List Int → List Int → Int → Prop), ∃ (m2 : List Int → List Int → Int → Nat), I1 [(l0.length : Int)] [] 0 ∧ ∀ (l3 l4 : List Int) (n5 : Int), I1 l3 l4 n5 → (n5 < (l0.length : Int) → 0 ≤
 n5 ∧ n5 < (l0.length : Int) ∧ (↑(List.length (Prod.snd (List.getD l0 (n5.toNat) (0, [])))) : Int) ≤ 1099511627776 ∧ ∀ (l6 : List Int), l6 = packB (Prod.snd (List.getD l0 (n5.toNat) (0, []))) ∧ (l6.length : Int) ≤ 82 → 0 ≤ n5 ∧ n5 <
 (l0.length : Int) ∧ (↑(l3.length + List.length [Prod.fst (List.getD l0 (n5.toNat) (0, [])), (l6.length : Int)]) : Int) ≤ 1099511627776 ∧ (↑(l4.length + l6.length) : Int) ≤ 1099511627776 ∧ (-9223372036854775808 ≤ n5 + 1 ∧ n5 + (1 : Int) ≤
 (9223372036854775807 : Int)) ∧ I1 (l3 ++ [Prod.fst (List.getD l0 (n5.toNat) (0, [])), (l6.length : Int)]) (l4 ++ l6) (n5 + 1) ∧ m2 (l3 ++ [Prod.fst (List.getD l0 (n5.toNat) (0, [])), (l6.length : Int)]) (l4 ++ l6) (n5 + 1) < m2 l3 l4 n5) ∧
 (¬n5 < (l0.length : Int) → (↑(l3.length + l4.length) : Int) ≤ 1099511627776 ∧ l3 ++ l4 = packE l0)
theorem v_s_l42Pack : V_s_l42Pack := by
  unfold V_s_l42Pack
  intro es hok
  have h' := entOk_iff.1 hok
  refine ⟨fun o q i => 0 ≤ i ∧ i ≤ es.length ∧ o = (es.length : Int) :: indexE (es.take i.toNat) ∧ q = blocksE (es.take i.toNat), fun o q i => (es.length - i).toNat, ?_, ?_⟩ <;> dsimp only
  · exact ⟨by omega, by omega, rfl, rfl⟩
  rintro o q i ⟨i0, i1, rfl, rfl⟩
  have hil := indexE_len (es.take i.toNat)
  have hbl := blocksE_len (es.take i.toNat)
  have htl := len_take (l := es) i0 i1
  refine ⟨fun hlt => ?_, fun hge => ?_⟩
  · obtain ⟨e1, e2, e3⟩ := ent_at hok i0 hlt
    have hl40 := LV_len e1
    have st1 := indexE_step i0 hlt
    have st2 := blocksE_step i0 hlt
    refine ⟨i0, hlt, by omega, ?_⟩
    rintro p ⟨rfl, hp⟩
    exact ⟨i0, hlt, by simp only [List.length_cons, List.length_nil]; omega, by omega, by omega, ⟨by omega, by omega, by rw [st1]; simp, st2.symm⟩, by omega⟩
  · rw [take_ge hge]
    rw [take_ge hge] at hil hbl
    exact ⟨by simp only [List.length_cons]; omega, rfl⟩
def V_i_ArchivePack : Prop :=
  ∀ (l0 : List (Int × List Int)), szE l0 ≤ 2000000 → szE l0 ≤ 2000000 ∧ (true = entOk l0 → ∃ (I1 : List Int → List Int → Int → Prop), ∃ (m2 : List Int → List Int → Int → Nat), I1 [(l0.length : Int)] [] 0 ∧ ∀ (l3 l4 : List Int) (n5 : Int), I1
 l3 l4 n5 → (n5 < (l0.length : Int) → 0 ≤ n5 ∧ n5 < (l0.length : Int) ∧ (↑(List.length (Prod.snd (List.getD l0 (n5.toNat) (0, [])))) : Int) ≤ 1099511627776 ∧ ∀ (l6 : List Int), l6 = packB (Prod.snd (List.getD l0 (n5.toNat) (0, []))) ∧
 (l6.length : Int) ≤ 82 → (↑(l3.length + List.length [Prod.fst (List.getD l0 (n5.toNat) (0, [])), (l6.length : Int)]) : Int) ≤ 1099511627776 ∧ (↑(l4.length + l6.length) : Int) ≤ 1099511627776 ∧ (-9223372036854775808 ≤ n5 + 1 ∧ n5 + (1 : Int)
 ≤ (9223372036854775807 : Int)) ∧ I1 (l3 ++ [Prod.fst (List.getD l0 (n5.toNat) (0, [])), (l6.length : Int)]) (l4 ++ l6) (n5 + 1) ∧ m2 (l3 ++ [Prod.fst (List.getD l0 (n5.toNat) (0, [])), (l6.length : Int)]) (l4 ++ l6) (n5 + 1) < m2 l3 l4 n5) ∧
 (¬n5 < (l0.length : Int) → (↑(l3.length + l4.length) : Int) ≤ 1099511627776 ∧ true = entOk l0 ∧ l3 ++ l4 = Option.getD (archD l0) [])) ∧ (false = entOk l0 → false = entOk l0 ∧ [] = Option.getD (archD l0) [])
theorem v_i_ArchivePack : V_i_ArchivePack := by
  unfold V_i_ArchivePack
  intro es hz
  refine ⟨hz, fun hv => ?_, fun hv => ⟨hv, by unfold archD; rw [← hv]; rfl⟩⟩
  have hok := hv.symm
  have hD : archD es = some (packE es) := if_pos hok
  rw [hD]
  have h' := entOk_iff.1 hok
  refine ⟨fun o q i => 0 ≤ i ∧ i ≤ es.length ∧ o = (es.length : Int) :: indexE (es.take i.toNat) ∧ q = blocksE (es.take i.toNat), fun o q i => (es.length - i).toNat, ?_, ?_⟩ <;> dsimp only
  · exact ⟨by omega, by omega, rfl, rfl⟩
  rintro o q i ⟨i0, i1, rfl, rfl⟩
  have hil := indexE_len (es.take i.toNat)
  have hbl := blocksE_len (es.take i.toNat)
  have htl := len_take (l := es) i0 i1
  refine ⟨fun hlt => ?_, fun hge => ?_⟩
  · obtain ⟨e1, e2, e3⟩ := ent_at hok i0 hlt
    have hl40 := LV_len e1
    have st1 := indexE_step i0 hlt
    have st2 := blocksE_step i0 hlt
    refine ⟨i0, hlt, by omega, ?_⟩
    rintro p ⟨rfl, hp⟩
    exact ⟨by simp only [List.length_cons, List.length_nil]; omega, by omega, by omega, ⟨by omega, by omega, by rw [st1]; simp, st2.symm⟩, by omega⟩
  · rw [take_ge hge]
    rw [take_ge hge] at hil hbl
    exact ⟨by simp only [List.length_cons]; omega, hv, rfl⟩
def V_s_ArchivePack : Prop :=
  ∀ (l0 : List (Int × List Int)), szE l0 ≤ 2000000 → szE l0 ≤ 2000000 ∧ (true = entOk l0 → entOk l0 = true ∧ ∀ (l1 : List Int), l1 = packE l0 → true = entOk l0 ∧ l1 = Option.getD (archD l0) []) ∧ (false = entOk l0 → false = entOk l0 ∧ [] =
 Option.getD (archD l0) [])
theorem v_s_ArchivePack : V_s_ArchivePack := by
  unfold V_s_ArchivePack
  intro es hz
  refine ⟨hz, fun hv => ⟨hv.symm, ?_⟩, fun hv => ⟨hv, by unfold archD; rw [← hv]; rfl⟩⟩
  rintro r rfl
  have hD : archD es = some (packE es) := if_pos hv.symm
  rw [hD]; exact ⟨hv, rfl⟩
def V_s_l42Read : Prop :=
  ∀ (l0 : List Int), (l0.length : Int) ≤ 1099511627776 ∧ allIn 0 255 l0 = true ∧ 1 ≤ (l0.length : Int) → (0 : Int) ≤ 0 ∧ 0 < (l0.length : Int) ∧ ((-9223372036854775808 : Int) ≤ 2 * List.getD l0 (Int.toNat 0) 0 ∧ 2 * List.getD l0 (Int.toNat 0)
 (0 : Int) ≤ (9223372036854775807 : Int)) ∧ ((-9223372036854775808 : Int) ≤ 1 + 2 * List.getD l0 (Int.toNat 0) 0 ∧ 1 + 2 * List.getD l0 (Int.toNat 0) (0 : Int) ≤ (9223372036854775807 : Int)) ∧ ∃ (I1 : List (Int × List Int) → Int → Int →
 Prop), ∃ (m2 : List (Int × List Int) → Int → Int → Nat), I1 [] (1 + 2 * List.getD l0 (Int.toNat 0) 0) 0 ∧ ∀ (l3 : List (Int × List Int)) (n4 n5 : Int), I1 l3 n4 n5 → (0 : Int) ≤ 0 ∧ 0 < (l0.length : Int) ∧ (n5 < List.getD l0 (Int.toNat 0) 0
 → (n5 < 5 → (n4 ≤ (l0.length : Int) → 0 ≤ n4 ∧ n4 ≤ (l0.length : Int) ∧ (↑(List.length (List.drop (n4.toNat) l0)) : Int) ≤ 1099511627776 ∧ ∀ (l6 : List Int) (n7 : Int), (true = Option.isSome (openD (List.drop (n4.toNat) l0)) ∧ (l6, n7) =
 Option.getD (openD (List.drop (n4.toNat) l0)) ([], 0) → ((-9223372036854775808 : Int) ≤ 2 * n5 ∧ 2 * n5 ≤ (9223372036854775807 : Int)) ∧ ((-9223372036854775808 : Int) ≤ 1 + 2 * n5 ∧ 1 + 2 * n5 ≤ (9223372036854775807 : Int)) ∧ (0 : Int) ≤ 1 +
 2 * n5 ∧ 1 + 2 * n5 < (l0.length : Int) ∧ (↑(l3.length + List.length [(List.getD l0 (Int.toNat (1 + 2 * n5)) 0, l6)]) : Int) ≤ 1099511627776 ∧ (-9223372036854775808 ≤ n4 + n7 ∧ n4 + n7 ≤ (9223372036854775807 : Int)) ∧ (-9223372036854775808 ≤
 n5 + 1 ∧ n5 + (1 : Int) ≤ (9223372036854775807 : Int)) ∧ I1 (l3 ++ [(List.getD l0 (Int.toNat (1 + 2 * n5)) 0, l6)]) (n4 + n7) (n5 + 1) ∧ m2 (l3 ++ [(List.getD l0 (Int.toNat (1 + 2 * n5)) 0, l6)]) (n4 + n7) (n5 + 1) < m2 l3 n4 n5) ∧ (false =
 Option.isSome (openD (List.drop (n4.toNat) l0)) ∧ (l6, n7) = Option.getD (openD (List.drop (n4.toNat) l0)) ([], 0) → ((-9223372036854775808 : Int) ≤ 2 * n5 ∧ 2 * n5 ≤ (9223372036854775807 : Int)) ∧ ((-9223372036854775808 : Int) ≤ 1 + 2 * n5
 ∧ 1 + 2 * n5 ≤ (9223372036854775807 : Int)) ∧ (0 : Int) ≤ 1 + 2 * n5 ∧ 1 + 2 * n5 < (l0.length : Int) ∧ (↑(l3.length + List.length [(List.getD l0 (Int.toNat (1 + 2 * n5)) 0, l6)]) : Int) ≤ 1099511627776 ∧ (-9223372036854775808 ≤ n4 + n7 ∧ n4
 + n7 ≤ (9223372036854775807 : Int)) ∧ (-9223372036854775808 ≤ n5 + 1 ∧ n5 + (1 : Int) ≤ (9223372036854775807 : Int)) ∧ I1 (l3 ++ [(List.getD l0 (Int.toNat (1 + 2 * n5)) 0, l6)]) (n4 + n7) (n5 + 1) ∧ m2 (l3 ++ [(List.getD l0 (Int.toNat (1 + 2
 * n5)) 0, l6)]) (n4 + n7) (n5 + 1) < m2 l3 n4 n5)) ∧ (¬n4 ≤ (l0.length : Int) → l3 = readS l0 (Int.toNat (min (List.getD l0 0 0) 5)) 0 (1 + 2 * List.getD l0 0 0))) ∧ (¬n5 < 5 → l3 = readS l0 (Int.toNat (min (List.getD l0 0 0) 5)) 0 (1 + 2 *
 List.getD l0 0 0))) ∧ (¬n5 < List.getD l0 (Int.toNat 0) 0 → l3 = readS l0 (Int.toNat (min (List.getD l0 0 0) 5)) 0 (1 + 2 * List.getD l0 0 0))
theorem v_s_l42Read : V_s_l42Read := by
  unfold V_s_l42Read
  rintro b ⟨hz, hin, h1⟩
  have e0 : b.getD (Int.toNat 0) 0 = b.getD 0 0 := rfl
  have hn := allIn_iff.1 hin _ (at_mem (i := 0) (by omega) (by omega))
  rw [e0] at hn ⊢
  generalize b.getD 0 0 = n at *
  refine ⟨by omega, by omega, by omega, by omega, ?_⟩
  refine ⟨fun o a i => 0 ≤ i ∧ i ≤ min n 5 ∧ 1 + 2 * n ≤ a ∧ a ≤ max (b.length : Int) (1 + 2 * n) ∧ (o.length : Int) ≤ i ∧ o ++ readS b (min n 5 - i).toNat i a = readS b (min n 5).toNat 0 (1 + 2 * n), fun o a i => (6 - i).toNat, ?_, ?_⟩ <;> dsimp only
  · exact ⟨by omega, by omega, by omega, by omega, by simp, by rw [Int.sub_zero]; rfl⟩
  rintro o a i ⟨i0, i1, a0, a1, ol, hI⟩
  have fin : readS b (min n 5 - i).toNat i a = [] → o = readS b (min n 5).toNat 0 (1 + 2 * n) := fun h => by rw [h, List.append_nil] at hI; exact hI
  refine ⟨by omega, by omega, fun hi => ⟨fun h5 => ⟨fun ha => ?_, fun ha => fin (readS_out ha)⟩, fun h5 => fin (by rw [show (min n 5 - i).toNat = 0 by omega, readS])⟩, fun hi => fin (by rw [show (min n 5 - i).toNat = 0 by omega, readS])⟩
  rw [show (min n 5 - i).toNat = (min n 5 - (i + 1)).toNat + 1 by omega, readS, if_pos ha] at hI
  have hdl : ((b.drop a.toNat).length : Int) = b.length - a := by simp; omega
  obtain ⟨g1, g2, g3⟩ := open_get (b.drop a.toNat)
  rw [hdl] at g3
  refine ⟨by omega, ha, by omega, fun l m => ⟨?_, ?_⟩⟩
  all_goals
    rintro ⟨_, hlm⟩
    have hl : ((openD (b.drop a.toNat)).getD ([], 0)).1 = l := (congrArg Prod.fst hlm).symm
    have hm : ((openD (b.drop a.toNat)).getD ([], 0)).2 = m := (congrArg Prod.snd hlm).symm
    rw [hl, hm] at hI
    rw [hm] at g2 g3
    exact ⟨by omega, by omega, by omega, by omega, by simp; omega, by omega, by omega, ⟨by omega, by omega, by omega, by omega, by simp; omega, by simpa using hI⟩, by omega⟩
def V_i_ArchiveOpen : Prop :=
  ∀ (l0 : List Int), (l0.length : Int) ≤ 1099511627776 → (l0.length : Int) ≤ 1099511627776 ∧ (true = allIn 0 255 l0 → ((l0.length : Int) = 0 → false = Option.isSome (aopenD l0) ∧ [] = Option.getD (aopenD l0) []) ∧ (¬(l0.length : Int) = 0 → (0
 : Int) ≤ 0 ∧ 0 < (l0.length : Int) ∧ (5 < List.getD l0 (Int.toNat 0) 0 → false = Option.isSome (aopenD l0) ∧ [] = Option.getD (aopenD l0) []) ∧ (¬5 < List.getD l0 (Int.toNat 0) 0 → (0 : Int) ≤ 0 ∧ 0 < (l0.length : Int) ∧
 ((-9223372036854775808 : Int) ≤ 2 * List.getD l0 (Int.toNat 0) 0 ∧ 2 * List.getD l0 (Int.toNat 0) (0 : Int) ≤ (9223372036854775807 : Int)) ∧ ((-9223372036854775808 : Int) ≤ 1 + 2 * List.getD l0 (Int.toNat 0) 0 ∧ 1 + 2 * List.getD l0
 (Int.toNat 0) (0 : Int) ≤ (9223372036854775807 : Int)) ∧ ((l0.length : Int) < 1 + 2 * List.getD l0 (Int.toNat 0) 0 → false = Option.isSome (aopenD l0) ∧ [] = Option.getD (aopenD l0) []) ∧ (¬(l0.length : Int) < 1 + 2 * List.getD l0 (Int.toNat
 0) 0 → (0 : Int) ≤ 0 ∧ 0 < (l0.length : Int) ∧ ((-9223372036854775808 : Int) ≤ 2 * List.getD l0 (Int.toNat 0) 0 ∧ 2 * List.getD l0 (Int.toNat 0) (0 : Int) ≤ (9223372036854775807 : Int)) ∧ ((-9223372036854775808 : Int) ≤ 1 + 2 * List.getD l0
 (Int.toNat 0) 0 ∧ 1 + 2 * List.getD l0 (Int.toNat 0) (0 : Int) ≤ (9223372036854775807 : Int)) ∧ (0 : Int) ≤ 0 ∧ 0 < (l0.length : Int) ∧ ∃ (I1 : List (Int × List Int) → Int → Int → Prop), ∃ (m2 : List (Int × List Int) → Int → Int → Nat), I1
 [] (1 + 2 * List.getD l0 (Int.toNat 0) 0) 0 ∧ ∀ (l3 : List (Int × List Int)) (n4 n5 : Int), I1 l3 n4 n5 → (n5 < List.getD l0 (Int.toNat 0) 0 → 0 ≤ n4 ∧ n4 ≤ (l0.length : Int) ∧ (↑(List.length (List.drop (n4.toNat) l0)) : Int) ≤ 1099511627776
 ∧ ∀ (l6 : List Int) (n7 : Int), (true = Option.isSome (openD (List.drop (n4.toNat) l0)) ∧ (l6, n7) = Option.getD (openD (List.drop (n4.toNat) l0)) ([], 0) → ((-9223372036854775808 : Int) ≤ 2 * n5 ∧ 2 * n5 ≤ (9223372036854775807 : Int)) ∧
 ((-9223372036854775808 : Int) ≤ 1 + 2 * n5 ∧ 1 + 2 * n5 ≤ (9223372036854775807 : Int)) ∧ (0 : Int) ≤ 1 + 2 * n5 ∧ 1 + 2 * n5 < (l0.length : Int) ∧ (↑(l3.length + List.length [(List.getD l0 (Int.toNat (1 + 2 * n5)) 0, l6)]) : Int) ≤
 1099511627776 ∧ (-9223372036854775808 ≤ n4 + n7 ∧ n4 + n7 ≤ (9223372036854775807 : Int)) ∧ (-9223372036854775808 ≤ n5 + 1 ∧ n5 + (1 : Int) ≤ (9223372036854775807 : Int)) ∧ I1 (l3 ++ [(List.getD l0 (Int.toNat (1 + 2 * n5)) 0, l6)]) (n4 + n7)
 (n5 + 1) ∧ m2 (l3 ++ [(List.getD l0 (Int.toNat (1 + 2 * n5)) 0, l6)]) (n4 + n7) (n5 + 1) < m2 l3 n4 n5) ∧ (false = Option.isSome (openD (List.drop (n4.toNat) l0)) ∧ (l6, n7) = Option.getD (openD (List.drop (n4.toNat) l0)) ([], 0) → false =
 Option.isSome (aopenD l0) ∧ [] = Option.getD (aopenD l0) [])) ∧ (¬n5 < List.getD l0 (Int.toNat 0) 0 → szE l3 ≤ 2000000 ∧ ∀ (l8 : List Int), (true = entOk l3 ∧ l8 = Option.getD (archD l3) [] → ((l8.length : Int) ≤ 1099511627776 ∧ (l0.length :
 Int) ≤ 1099511627776) ∧ (true = decide (l8 = l0) → true = Option.isSome (aopenD l0) ∧ l3 = Option.getD (aopenD l0) []) ∧ (false = decide (l8 = l0) → false = Option.isSome (aopenD l0) ∧ [] = Option.getD (aopenD l0) [])) ∧ (false = entOk l3 ∧
 l8 = Option.getD (archD l3) [] → false = Option.isSome (aopenD l0) ∧ [] = Option.getD (aopenD l0) [])))))) ∧ (false = allIn 0 255 l0 → false = Option.isSome (aopenD l0) ∧ [] = Option.getD (aopenD l0) [])
theorem v_i_ArchiveOpen : V_i_ArchiveOpen := by
  unfold V_i_ArchiveOpen
  intro b hz
  have no : aopenD b = none → (false = (aopenD b).isSome ∧ ([] : List En) = (aopenD b).getD []) := fun h => by rw [h]; exact ⟨rfl, rfl⟩
  have e0 : b.getD (Int.toNat 0) 0 = b.getD 0 0 := rfl
  rw [e0]
  refine ⟨hz, fun hb => ⟨fun h0 => no (if_neg (fun q => by simp only [Bool.and_eq_true, decide_eq_true_eq] at q; omega)), fun h0 => ?_⟩, fun hb => no (if_neg (fun q => by rw [← hb] at q; simp at q))⟩
  have hn := allIn_iff.1 hb.symm _ (at_mem (i := 0) (by omega) (by omega))
  rw [e0] at hn
  have hdef : aopenD b = if (allIn 0 255 b && decide (1 ≤ b.length) && decide (b.getD 0 0 ≤ 5) && decide (1 + 2 * b.getD 0 0 ≤ (b.length : Int))) = true then
    (readE b (b.getD 0 0).toNat 0 (1 + 2 * b.getD 0 0)).bind fun es => if archD es = some b then some es else none
    else none := rfl
  rw [← hb, decide_eq_true (show 1 ≤ b.length by omega)] at hdef
  generalize b.getD 0 0 = n at *
  refine ⟨by omega, by omega, fun h5 => no (by rw [hdef, if_neg (by simp; omega)]), fun h5 => ⟨by omega, by omega, by omega, by omega, fun hs => no (by rw [hdef, if_neg (by simp; omega)]), fun hs => ⟨by omega, by omega, by omega, by omega, by omega, by omega, ?_⟩⟩⟩
  rw [if_pos (by simp; omega)] at hdef
  refine ⟨fun o a i => 0 ≤ i ∧ i ≤ n ∧ 1 + 2 * n ≤ a ∧ a ≤ b.length ∧ (o.length : Int) = i ∧ (∀ x ∈ o, (x.2 : List Int).length ≤ 40) ∧ readE b n.toNat 0 (1 + 2 * n) = (readE b (n - i).toNat i a).map (fun es => o ++ es), fun o a i => (n - i).toNat, ?_, ?_⟩ <;> dsimp only
  · exact ⟨by omega, by omega, by omega, by omega, by simp, by simp, by rw [Int.sub_zero]; simp⟩
  rintro o a i ⟨i0, i1, a0, a1, ol, ho, hI⟩
  refine ⟨fun hi => ?_, fun hi => ?_⟩
  · rw [show (n - i).toNat = (n - (i + 1)).toNat + 1 by omega, readE] at hI
    have hdl : ((b.drop a.toNat).length : Int) = b.length - a := by simp; omega
    refine ⟨by omega, a1, by omega, fun l m => ⟨?_, ?_⟩⟩
    · rintro ⟨q, hlm⟩
      obtain ⟨p, hp⟩ := some_of q
      rw [hp] at hI hlm
      simp only [Option.getD_some] at hlm
      subst hlm
      obtain ⟨q1, q2, q3, q4⟩ := openD_nn hp
      rw [hdl] at q3
      simp only [Option.bind_some, Option.map_map] at hI
      refine ⟨by omega, by omega, by omega, by omega, by simp; omega, by omega, by omega, ⟨by omega, by omega, by omega, by omega, by simp; omega, ?_, ?_⟩, by omega⟩
      · intro x hx
        rcases List.mem_append.1 hx with hx | hx
        · exact ho x hx
        · rw [List.mem_singleton] at hx; subst hx; exact q4
      · rw [hI]
        congr 1
        funext es
        simp
    · rintro ⟨q, _⟩
      rw [none_of q] at hI
      exact no (by rw [hdef, hI]; rfl)
  · rw [show (n - i).toNat = 0 by omega, readE] at hI
    rw [hI] at hdef
    simp only [Option.map_some, List.append_nil, Option.bind_some] at hdef
    have hsz := szE_small ho
    refine ⟨by omega, fun r => ⟨?_, ?_⟩⟩
    · rintro ⟨hok, rfl⟩
      have hA : archD o = some (packE o) := if_pos hok.symm
      have hpl := packE_len hok.symm
      rw [hA] at hdef ⊢
      simp only [Option.getD_some, Option.some.injEq] at hdef ⊢
      refine ⟨⟨by omega, hz⟩, fun he => ?_, fun he => no (by rw [hdef, if_neg (fun q => by rw [decide_eq_true q] at he; cases he)])⟩
      simp only [true_eq_decide_iff] at he
      rw [hdef, if_pos he]; exact ⟨rfl, rfl⟩
    · rintro ⟨hok, rfl⟩
      have hA : archD o = none := if_neg (by rw [← hok]; simp)
      exact no (by rw [hdef, hA, if_neg (by simp)])
def V_s_ArchiveOpen : Prop :=
  ∀ (l0 : List Int), (l0.length : Int) ≤ 1099511627776 → (l0.length : Int) ≤ 1099511627776 ∧ (true = allIn 0 255 l0 → ((l0.length : Int) = 0 → false = Option.isSome (aopenD l0) ∧ [] = Option.getD (aopenD l0) []) ∧ (¬(l0.length : Int) = 0 →
 ((l0.length : Int) ≤ 1099511627776 ∧ allIn 0 255 l0 = true ∧ 1 ≤ (l0.length : Int)) ∧ ∀ (l1 : List (Int × List Int)), l1 = readS l0 (Int.toNat (min (List.getD l0 0 0) 5)) 0 (1 + 2 * List.getD l0 0 0) → szE l1 ≤ 2000000 ∧ ∀ (l2 : List Int),
 (true = entOk l1 ∧ l2 = Option.getD (archD l1) [] → ((l2.length : Int) ≤ 1099511627776 ∧ (l0.length : Int) ≤ 1099511627776) ∧ (true = decide (l2 = l0) → true = Option.isSome (aopenD l0) ∧ l1 = Option.getD (aopenD l0) []) ∧ (false = decide
 (l2 = l0) → false = Option.isSome (aopenD l0) ∧ [] = Option.getD (aopenD l0) [])) ∧ (false = entOk l1 ∧ l2 = Option.getD (archD l1) [] → false = Option.isSome (aopenD l0) ∧ [] = Option.getD (aopenD l0) []))) ∧ (false = allIn 0 255 l0 → false
 = Option.isSome (aopenD l0) ∧ [] = Option.getD (aopenD l0) [])
theorem v_s_ArchiveOpen : V_s_ArchiveOpen := by
  unfold V_s_ArchiveOpen
  intro b hz
  rw [← aopenS_same]
  have no : aopenS b = none → (false = (aopenS b).isSome ∧ ([] : List En) = (aopenS b).getD []) := fun h => by rw [h]; exact ⟨rfl, rfl⟩
  refine ⟨hz, fun hb => ⟨fun h0 => no (if_neg (fun q => by simp only [Bool.and_eq_true, decide_eq_true_eq] at q; omega)), fun h0 => ⟨⟨hz, hb.symm, by omega⟩, ?_⟩⟩, fun hb => no (if_neg (fun q => by rw [← hb] at q; simp at q))⟩
  have hdef : aopenS b = if archD (readS b (min (b.getD 0 0) 5).toNat 0 (1 + 2 * b.getD 0 0)) = some b then some (readS b (min (b.getD 0 0) 5).toNat 0 (1 + 2 * b.getD 0 0)) else none := if_pos (by rw [← hb, decide_eq_true (show 1 ≤ b.length by omega)]; rfl)
  obtain ⟨r1, r2⟩ := readS_small b (min (b.getD 0 0) 5).toNat 0 (1 + 2 * b.getD 0 0)
  rintro o rfl
  have hsz := szE_small r1
  generalize readS b (min (b.getD 0 0) 5).toNat 0 (1 + 2 * b.getD 0 0) = o at *
  refine ⟨by omega, fun r => ⟨?_, ?_⟩⟩
  · rintro ⟨hok, rfl⟩
    have hA : archD o = some (packE o) := if_pos hok.symm
    have hpl := packE_len hok.symm
    rw [hA] at hdef ⊢
    simp only [Option.getD_some, Option.some.injEq] at hdef ⊢
    refine ⟨⟨by omega, hz⟩, fun he => ?_, fun he => no (by rw [hdef, if_neg (fun q => by rw [decide_eq_true q] at he; cases he)])⟩
    simp only [true_eq_decide_iff] at he
    rw [hdef, if_pos he]; exact ⟨rfl, rfl⟩
  · rintro ⟨hok, rfl⟩
    have hA : archD o = none := if_neg (by rw [← hok]; simp)
    exact no (by rw [hdef, hA, if_neg (by simp)])
end Go.Proofs.Ytkkgpcbkkahieaa
