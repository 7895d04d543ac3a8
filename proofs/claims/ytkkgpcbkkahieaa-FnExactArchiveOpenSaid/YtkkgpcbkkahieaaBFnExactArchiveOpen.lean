/-
  FnExactArchiveOpen: conditions of functions with lists that lie aside, and that they hold.
-/
import Derived.Test.YtkkgpcbkkahieaaMY
import Derived.Test.YtkkgpcbkkahieaaT
import Derived.Test.YtkkgpcbkkahieaaSa
import Derived.Test.YtkkgpcbkkahieaaSg
import Derived.Test.YtkkgpcbkkahieaaSi
import Derived.Test.YtkkgpcbkkahieaaSj
import Derived.Test.YtkkgpcbkkahieaaSk
import Derived.Test.YtkkgpcbkkahieaaSl
import Derived.Test.YtkkgpcbkkahieaaSm
import Derived.Test.YtkkgpcbkkahieaaSn
import Derived.Test.YtkkgpcbkkahieaaSo
import Derived.Test.YtkkgpcbkkahieaaSp
import Derived.Test.YtkkgpcbkkahieaaSr
import Derived.Test.YtkkgpcbkkahieaaSs
import Derived.Test.YtkkgpcbkkahieaaSy
set_option linter.unusedVariables false
set_option linter.unusedSimpArgs false
open Go Go.Ax Go.Mx
namespace Go.Proofs.Ytkkgpcbkkahieaa
def tisB : List (Nat × TI) := [(2, .int .i64), (3, .int .i64), (4, .bool), (5, .int .u8), (9, .str), (22, .slice 50 .ent), (24, .slice 3 .int), (27, .slice 53 .ev), (38, .struct [.nil, .nil, .bool false]), (39, .struct [.nil, .nil, .bool false]), (41, .struct [.nil, .nil, .bool false]), (49, .struct [.int .i64 0, .nil]), (50, .struct [.int .i64 0, .nil]), (53, .struct [.int .i64 0, .nil]), (68, .slice 71 .r2), (70, .struct [.int .i64 0, .int .i64 0]), (71, .struct [.int .i64 0, .int .i64 0]), (73, .slice 76 .r3), (75, .struct [.int .i64 0, .int .i64 0, .int .i64 0]), (76, .struct [.int .i64 0, .int .i64 0, .int .i64 0]), (82, .slice 84 .ent), (83, .struct [.int .i64 0, .nil]), (84, .struct [.int .i64 0, .nil])]
theorem tokB : TOK Try.prog (lk tisB) := tysB_ok (by kernel_rfl)
theorem m1_l_markIntS : Mark1 Try.prog 3 13 :=
  mark1_of_meets m_l_markIntS rfl rfl rfl (fun l k h0 h1 h2 => ⟨by omega, h0, by omega⟩) (fun l l2 k r h => ⟨by rw [markL_eq]; exact h.2, h.1⟩)
def F_i_ArchiveOpen : FB where
  args := [.sc (.sl .int)]
  outs := [.sc (.own 53 .ev), .sc .bool]
  pre := fun a => match a with
    | [.sc (.sl .int b)] => (((b).length : Nat) : Int) ≤ 1099511627776
    | _ => False
  post := fun a r h => match a, r with
    | [.sc (.sl .int b)], [.sc (.sl .ev r), .sc (.bool ok)] => ∃ e : List E3, r = nvs e ∧ h = vls e ∧ ok = (aopenD b).isSome ∧ nls e = (aopenD b).getD []
    | _, _ => False
def VB_i_ArchiveOpen : Prop :=
  ∀ (l0 : List Int), (l0.length : Int) ≤ 1099511627776 → (l0.length : Int) ≤ 1099511627776 ∧ (true = allIn 0 255 l0 → ((l0.length : Int) = 0 → ∃ (m1 : List (Value × List Int)), ∃ (m2 : List (Value × List Int)), [] = cat m1 m2 ∧ ∃ (e : List
 (Int × Value × List Int)), [] = nvs e ∧ m1 = vls e ∧ false = Option.isSome (aopenD l0) ∧ nls e = Option.getD (aopenD l0) []) ∧ (¬(l0.length : Int) = 0 → (0 : Int) ≤ 0 ∧ 0 < (l0.length : Int) ∧ (5 < List.getD l0 (Int.toNat 0) 0 → ∃ (m3 : List
 (Value × List Int)), ∃ (m4 : List (Value × List Int)), [] = cat m3 m4 ∧ ∃ (e : List (Int × Value × List Int)), [] = nvs e ∧ m3 = vls e ∧ false = Option.isSome (aopenD l0) ∧ nls e = Option.getD (aopenD l0) []) ∧ (¬5 < List.getD l0 (Int.toNat
 0) 0 → (0 : Int) ≤ 0 ∧ 0 < (l0.length : Int) ∧ ((-9223372036854775808 : Int) ≤ 2 * List.getD l0 (Int.toNat 0) 0 ∧ 2 * List.getD l0 (Int.toNat 0) (0 : Int) ≤ (9223372036854775807 : Int)) ∧ ((-9223372036854775808 : Int) ≤ 1 + 2 * List.getD l0
 (Int.toNat 0) 0 ∧ 1 + 2 * List.getD l0 (Int.toNat 0) (0 : Int) ≤ (9223372036854775807 : Int)) ∧ ((l0.length : Int) < 1 + 2 * List.getD l0 (Int.toNat 0) 0 → ∃ (m5 : List (Value × List Int)), ∃ (m6 : List (Value × List Int)), [] = cat m5 m6 ∧
 ∃ (e : List (Int × Value × List Int)), [] = nvs e ∧ m5 = vls e ∧ false = Option.isSome (aopenD l0) ∧ nls e = Option.getD (aopenD l0) []) ∧ (¬(l0.length : Int) < 1 + 2 * List.getD l0 (Int.toNat 0) 0 → (0 : Int) ≤ 0 ∧ 0 < (l0.length : Int) ∧
 ((-9223372036854775808 : Int) ≤ 2 * List.getD l0 (Int.toNat 0) 0 ∧ 2 * List.getD l0 (Int.toNat 0) (0 : Int) ≤ (9223372036854775807 : Int)) ∧ ((-9223372036854775808 : Int) ≤ 1 + 2 * List.getD l0 (Int.toNat 0) 0 ∧ 1 + 2 * List.getD l0
 (Int.toNat 0) (0 : Int) ≤ (9223372036854775807 : Int)) ∧ (0 : Int) ≤ 0 ∧ 0 < (l0.length : Int) ∧ ∃ (I7 : List (Value × List Int) → List (Int × Value) → Int → Int → Prop), ∃ (m8 : List (Int × Value) → Int → Int → Nat), I7 [] [] (1 + 2 *
 List.getD l0 (Int.toNat 0) 0) 0 ∧ ∀ (l9 : List (Value × List Int)) (l10 : List (Int × Value)) (n11 n12 : Int), I7 l9 l10 n11 n12 → (n12 < List.getD l0 (Int.toNat 0) 0 → 0 ≤ n11 ∧ n11 ≤ (l0.length : Int) ∧ (↑(List.length (List.drop
 (n11.toNat) l0)) : Int) ≤ 1099511627776 ∧ ∀ (l13 : List Int) (n14 : Int), (true = Option.isSome (openD (List.drop (n11.toNat) l0)) ∧ (l13, n14) = Option.getD (openD (List.drop (n11.toNat) l0)) ([], 0) → ∀ (x15 : Value),
 ((-9223372036854775808 : Int) ≤ 2 * n12 ∧ 2 * n12 ≤ (9223372036854775807 : Int)) ∧ ((-9223372036854775808 : Int) ≤ 1 + 2 * n12 ∧ 1 + 2 * n12 ≤ (9223372036854775807 : Int)) ∧ (0 : Int) ≤ 1 + 2 * n12 ∧ 1 + 2 * n12 < (l0.length : Int) ∧
 (↑(l10.length + List.length [(List.getD l0 (Int.toNat (1 + 2 * n12)) 0, x15)]) : Int) ≤ 1099511627776 ∧ (-9223372036854775808 ≤ n11 + n14 ∧ n11 + n14 ≤ (9223372036854775807 : Int)) ∧ (-9223372036854775808 ≤ n12 + 1 ∧ n12 + (1 : Int) ≤
 (9223372036854775807 : Int)) ∧ I7 (cat l9 [(x15, l13)]) (l10 ++ [(List.getD l0 (Int.toNat (1 + 2 * n12)) 0, x15)]) (n11 + n14) (n12 + 1) ∧ m8 (l10 ++ [(List.getD l0 (Int.toNat (1 + 2 * n12)) 0, x15)]) (n11 + n14) (n12 + 1) < m8 l10 n11 n12)
 ∧ (false = Option.isSome (openD (List.drop (n11.toNat) l0)) ∧ (l13, n14) = Option.getD (openD (List.drop (n11.toNat) l0)) ([], 0) → ∀ (x16 : Value), ∃ (m17 : List (Value × List Int)), ∃ (m18 : List (Value × List Int)), cat l9 [(x16, l13)] =
 cat m17 m18 ∧ ∃ (e : List (Int × Value × List Int)), [] = nvs e ∧ m17 = vls e ∧ false = Option.isSome (aopenD l0) ∧ nls e = Option.getD (aopenD l0) [])) ∧ (¬n12 < List.getD l0 (Int.toNat 0) 0 → ∃ (m19 : List (Int × Value × List Int)), l10 =
 nvs m19 ∧ (∀ (p : Value × List Int), p ∈ vls m19 → p ∈ l9) ∧ szE (nls m19) ≤ 2000000 ∧ ∀ (l20 : List Int), (true = entOk (nls m19) ∧ l20 = Option.getD (archD (nls m19)) [] → ((l20.length : Int) ≤ 1099511627776 ∧ (l0.length : Int) ≤
 1099511627776) ∧ (true = decide (l20 = l0) → ∃ (m21 : List (Value × List Int)), ∃ (m22 : List (Value × List Int)), l9 = cat m21 m22 ∧ ∃ (e : List (Int × Value × List Int)), l10 = nvs e ∧ m21 = vls e ∧ true = Option.isSome (aopenD l0) ∧ nls e
 = Option.getD (aopenD l0) []) ∧ (false = decide (l20 = l0) → ∃ (m23 : List (Value × List Int)), ∃ (m24 : List (Value × List Int)), l9 = cat m23 m24 ∧ ∃ (e : List (Int × Value × List Int)), [] = nvs e ∧ m23 = vls e ∧ false = Option.isSome
 (aopenD l0) ∧ nls e = Option.getD (aopenD l0) [])) ∧ (false = entOk (nls m19) ∧ l20 = Option.getD (archD (nls m19)) [] → ∃ (m25 : List (Value × List Int)), ∃ (m26 : List (Value × List Int)), l9 = cat m25 m26 ∧ ∃ (e : List (Int × Value × List
 Int)), [] = nvs e ∧ m25 = vls e ∧ false = Option.isSome (aopenD l0) ∧ nls e = Option.getD (aopenD l0) [])))))) ∧ (false = allIn 0 255 l0 → ∃ (m27 : List (Value × List Int)), ∃ (m28 : List (Value × List Int)), [] = cat m27 m28 ∧ ∃ (e : List
 (Int × Value × List Int)), [] = nvs e ∧ m27 = vls e ∧ false = Option.isSome (aopenD l0) ∧ nls e = Option.getD (aopenD l0) [])
theorem vb_i_ArchiveOpen : VB_i_ArchiveOpen := by
  unfold VB_i_ArchiveOpen
  intro b hz
  have no : ∀ {h : HH}, aopenD b = none → ∃ m m' : List (Value × List Int), h = cat m m' ∧ ∃ e : List (Int × Value × List Int), ([] : List (Int × Value)) = nvs e ∧ m = vls e ∧ false = (aopenD b).isSome ∧ nls e = (aopenD b).getD [] := fun h => ⟨[], _, rfl, [], rfl, rfl, by rw [h]; rfl, by rw [h]; rfl⟩
  have e0 : b.getD (Int.toNat 0) 0 = b.getD 0 0 := rfl
  rw [e0]
  refine ⟨hz, fun hb => ⟨fun h0 => no (if_neg (fun q => by simp only [Bool.and_eq_true, decide_eq_true_eq] at q; omega)), fun h0 => ?_⟩, fun hb => no (if_neg (fun q => by rw [← hb] at q; simp at q))⟩
  have hn := allIn_iff.1 hb.symm _ (at_mem (i := 0) (by omega) (by omega))
  rw [e0] at hn
  have hdef : aopenD b = if (allIn 0 255 b && decide (1 ≤ b.length) && decide (b.getD 0 0 ≤ 5) && decide (1 + 2 * b.getD 0 0 ≤ (b.length : Int))) = true then
    (readE b (b.getD 0 0).toNat 0 (1 + 2 * b.getD 0 0)).bind fun es => if archD es = some b then some es else none
    else none := rfl
  rw [← hb, decide_eq_true (show 1 ≤ b.length by omega)] at hdef
  generalize b.getD 0 0 = n at *
  refine ⟨by omega, by omega, fun h5 => no (by rw [hdef, if_neg (by simp; omega)]), fun h5 => ⟨by omega, by omega, by omega, by omega, fun hs => no (by rw [hdef, if_neg (by simp; omega)]), fun hs => ⟨by omega, by omega, by omega, by omega, by omega, by omega, ?_⟩⟩⟩
  rw [if_pos (by simp; omega)] at hdef
  refine ⟨fun h o a i => ∃ e : List E3, o = nvs e ∧ h = vls e ∧ 0 ≤ i ∧ i ≤ n ∧ 1 + 2 * n ≤ a ∧ a ≤ b.length ∧ (e.length : Int) = i ∧ (∀ x ∈ nls e, (x.2 : List Int).length ≤ 40) ∧ readE b n.toNat 0 (1 + 2 * n) = (readE b (n - i).toNat i a).map (fun es => nls e ++ es), fun o a i => (n - i).toNat, ?_, ?_⟩
  · exact ⟨[], rfl, rfl, by omega, by omega, by omega, by omega, by simp, by simp [nls], by rw [Int.sub_zero]; simp [nls]⟩
  rintro h o a i ⟨e, rfl, rfl, i0, i1, a0, a1, ol, ho, hI⟩
  have hnl := nvs_length e
  refine ⟨fun hi => ?_, fun hi => ?_⟩
  · rw [show (n - i).toNat = (n - (i + 1)).toNat + 1 by omega, readE] at hI
    have hdl : ((b.drop a.toNat).length : Int) = b.length - a := by simp; omega
    refine ⟨by omega, a1, by omega, fun l m => ⟨?_, ?_⟩⟩
    · rintro ⟨q, hlm⟩ u
      obtain ⟨p, hp⟩ := some_of q
      rw [hp] at hI hlm
      simp only [Option.getD_some] at hlm
      subst hlm
      obtain ⟨q1, q2, q3, q4⟩ := openD_nn hp
      rw [hdl] at q3
      simp only [Option.bind_some, Option.map_map] at hI
      refine ⟨by omega, by omega, by omega, by omega, by simp; omega, by omega, by omega, ⟨e ++ [(b.getD (1 + 2 * i).toNat 0, u, l)], by rw [nvs_app]; rfl, by rw [cat_is, vls_app]; rfl, by omega, by omega, by omega, by omega, by simp; omega, ?_, ?_⟩, by dsimp only; omega⟩
      · intro x hx
        rw [nls_app] at hx
        rcases List.mem_append.1 hx with hx | hx
        · exact ho x hx
        · simp only [nls, List.map_cons, List.map_nil, List.mem_singleton] at hx
          subst hx; exact q4
      · rw [hI, nls_app]
        congr 1
        funext es
        simp [nls]
    · rintro ⟨q, _⟩ u
      rw [none_of q] at hI
      exact no (by rw [hdef, hI]; rfl)
  · rw [show (n - i).toNat = 0 by omega, readE] at hI
    rw [hI] at hdef
    simp only [Option.map_some, List.append_nil, Option.bind_some] at hdef
    have hsz := szE_small ho
    rw [nls_length] at hsz
    refine ⟨e, rfl, fun _ h => h, by omega, fun r => ⟨?_, ?_⟩⟩
    · rintro ⟨hok, rfl⟩
      have hA : archD (nls e) = some (packE (nls e)) := if_pos hok.symm
      have hpl := packE_len hok.symm
      rw [hA] at hdef ⊢
      simp only [Option.getD_some, Option.some.injEq] at hdef ⊢
      refine ⟨⟨by omega, hz⟩, fun he => ?_, fun he => no (by rw [hdef, if_neg (fun q => by rw [decide_eq_true q] at he; cases he)])⟩
      simp only [true_eq_decide_iff] at he
      rw [hdef, if_pos he]
      exact ⟨vls e, [], by rw [cat_is, List.append_nil], e, rfl, rfl, rfl, rfl⟩
    · rintro ⟨hok, rfl⟩
      have hA : archD (nls e) = none := if_neg (by rw [← hok]; simp)
      exact no (by rw [hdef, hA, if_neg (by simp)])
theorem mf_i_ArchiveOpen : MeetsF Try.prog 3 17 F_i_ArchiveOpen :=
  meetsF tokB Try.func17 (by kernel_rfl) (l := [(9, S_i_ArchivePack), (36, S_i_bytesOk), (37, S_i_BlockOpen), (38, S_i_alike)]) ⟨m_i_ArchivePack, m_i_bytesOk, m_i_BlockOpen, m_i_alike, trivial⟩ (sp := [(53, .hide), (77, .call 9 (lendBF S_i_ArchivePack))]) ⟨lend_ok m_i_ArchivePack, trivial⟩ (ann := [(6, [.slot 4 (.own 53 .ev), .slot 5 .int, .slot 46 .int])]) vb_i_ArchiveOpen (by kernel_rfl)
def VB_l_markEntryS : Prop :=
  ∀ (l0 : List (Int × Value × List Int)) (n1 : Int), 0 ≤ n1 → endE n1 l0 ≤ 1000000000 → ∃ (I2 : List (Value × List Int) → Int → Int → List (Int × Value) → Prop), ∃ (m3 : Int → Int → List (Int × Value) → Nat), I2 (vls l0) n1 0 (nvs l0) ∧ ∀ (l4
 : List (Value × List Int)) (n5 n6 : Int) (l7 : List (Int × Value)), I2 l4 n5 n6 l7 → (n6 < (l7.length : Int) → 0 ≤ n6 ∧ n6 < (l7.length : Int) ∧ n6.toNat < l7.length ∧ (-9223372036854775808 ≤ n5 + 1 ∧ n5 + (1 : Int) ≤ (9223372036854775807 :
 Int)) ∧ 0 ≤ n6 ∧ n6 < (↑(List.length (List.set l7 (n6.toNat) (n5, Prod.snd (List.getD l7 (n6.toNat) (0, Value.slice none 0 0))))) : Int) ∧ n6.toNat < List.length (List.set l7 (n6.toNat) (n5, Prod.snd (List.getD l7 (n6.toNat) (0, Value.slice
 none 0 0)))) ∧ ∃ (m8 : List Int), ∃ (m9 : List (Value × List Int)), ∃ (m10 : List (Value × List Int)), l4 = cat m9 ((Prod.snd (List.getD (List.set l7 (n6.toNat) (n5, Prod.snd (List.getD l7 (n6.toNat) (0, Value.slice none 0 0)))) (n6.toNat)
 (0, Value.slice none 0 0)), m8) :: m10) ∧ 0 ≤ n5 + 1 ∧ n5 + (1 : Int) ≤ 1000000000 ∧ (↑(List.length m8) : Int) ≤ 1000000000 ∧ (-9223372036854775808 ≤ n6 + 1 ∧ n6 + (1 : Int) ≤ (9223372036854775807 : Int)) ∧ I2 (cat m9 ((Prod.snd (List.getD
 (List.set l7 (n6.toNat) (n5, Prod.snd (List.getD l7 (n6.toNat) (0, Value.slice none 0 0)))) (n6.toNat) (0, Value.slice none 0 0)), markL (n5 + 1) (List.length m8)) :: m10)) (n5 + 1 + (↑(List.length m8) : Int)) (n6 + 1) (List.set l7
 (n6.toNat) (n5, Prod.snd (List.getD l7 (n6.toNat) (0, Value.slice none 0 0)))) ∧ m3 (n5 + 1 + (↑(List.length m8) : Int)) (n6 + 1) (List.set l7 (n6.toNat) (n5, Prod.snd (List.getD l7 (n6.toNat) (0, Value.slice none 0 0)))) < m3 n5 n6 l7) ∧
 (¬n6 < (l7.length : Int) → l7 = nvs (markE n1 l0) ∧ n5 = endE n1 l0 ∧ l4 = vls (markE n1 l0))
theorem vb_l_markEntryS : VB_l_markEntryS := by
  unfold VB_l_markEntryS
  intro e n hn0 hn1
  have hel := endE_len n e
  refine ⟨fun h k i a => 0 ≤ i ∧ i ≤ e.length ∧ k = endE n (e.take i.toNat) ∧ a = nvs (markE n (e.take i.toNat) ++ e.drop i.toNat) ∧ h = vls (markE n (e.take i.toNat) ++ e.drop i.toNat), fun k i a => ((a.length : Int) - i).toNat, ⟨by omega, by omega, rfl, rfl, rfl⟩, ?_⟩
  rintro h k i a ⟨h0, h1, rfl, rfl, rfl⟩
  have hlen : (nvs (markE n (e.take i.toNat) ++ e.drop i.toNat)).length = e.length := by rw [nvs_length, List.length_append, markE_length, List.length_take, List.length_drop]; omega
  rw [hlen]
  refine ⟨fun hlt => ?_, fun hge => ?_⟩
  · obtain ⟨x, e1, e2, e3, e4⟩ := at_mid h0 hlt
    have hk : endE n (e.take (i + 1).toNat) = endE n (e.take i.toNat) + 1 + (x.2.2.length : Int) := by rw [e2, endE_app]; rfl
    have hk0 := endE_ge n (e.take i.toNat)
    have hk1 : endE n (e.take (i + 1).toNat) ≤ endE n e := by
      have h := endE_app n (e.take (i + 1).toNat) (e.drop (i + 1).toNat)
      rw [List.take_append_drop] at h
      have := endE_ge (endE n (e.take (i + 1).toNat)) (e.drop (i + 1).toNat)
      omega
    have hml : (markE n (e.take i.toNat)).length = i.toNat := by rw [markE_length, e4]
    have hnl : (nvs (markE n (e.take i.toNat))).length = i.toNat := by rw [nvs_length, hml]
    have hl' : ∀ y, ((nvs (markE n (e.take i.toNat)) ++ (x.1, x.2.1) :: nvs (e.drop (i + 1).toNat)).set i.toNat y).length = e.length := fun y => by
      rw [List.length_set, List.length_append, hnl, List.length_cons, nvs_length, List.length_drop]; omega
    rw [e3, nvs_app, vls_app, nvs_cons, vls_cons]
    have g1 : (nvs (markE n (e.take i.toNat)) ++ (x.1, x.2.1) :: nvs (e.drop (i + 1).toNat)).getD i.toNat (0, Value.slice none 0 0) = (x.1, x.2.1) := getD_mid' hnl _ _ _
    have g2 : ∀ y, (nvs (markE n (e.take i.toNat)) ++ (x.1, x.2.1) :: nvs (e.drop (i + 1).toNat)).set i.toNat y = nvs (markE n (e.take i.toNat)) ++ y :: nvs (e.drop (i + 1).toNat) := fun y => set_mid' hnl _ _ _
    have g3 : ∀ y, (nvs (markE n (e.take i.toNat)) ++ y :: nvs (e.drop (i + 1).toNat)).getD i.toNat (0, Value.slice none 0 0) = y := fun y => getD_mid' hnl _ _ _
    have hl2 : ∀ y, (nvs (markE n (e.take i.toNat)) ++ y :: nvs (e.drop (i + 1).toNat)).length = e.length := fun y => by rw [← g2 y, hl']
    rw [g1]
    simp only [g2, g3, hl2]
    refine ⟨h0, hlt, by omega, ⟨by omega, by omega⟩, h0, hlt, by omega, x.2.2, vls (markE n (e.take i.toNat)), vls (e.drop (i + 1).toNat), by rw [cat_is], by omega, by omega, by omega, ⟨by omega, by omega⟩, ⟨by omega, by omega, hk.symm, ?_, ?_⟩, by omega⟩
    · rw [e2, markE_app, nvs_app, nvs_app, List.append_assoc]; rfl
    · rw [cat_is, e2, markE_app, vls_app, vls_app, List.append_assoc]; rfl
  · have hd : e.drop i.toNat = [] := List.drop_eq_nil_of_le (by omega)
    rw [take_ge hge, hd, List.append_nil]
    exact ⟨rfl, rfl, rfl⟩
theorem mc_l_markEntryS : MarkC Try.prog 3 53 12 :=
  markC tokB Try.func12 (by kernel_rfl) (l := [(13, S_l_markIntS)]) ⟨m_l_markIntS, trivial⟩ (sp := [(25, .call 13 mark1BF)]) ⟨mark1_ok m1_l_markIntS, trivial⟩ (ann := [(2, [.slot 1 .int, .slot 5 .int, .arr 0 53 .ev])]) vb_l_markEntryS (by kernel_rfl)
def F_l_FnExactArchiveOpen : FB where
  args := [.sc (.sl .int)]
  outs := [.sc .bool]
  pre := fun a => match a with
    | [.sc (.sl .int a)] => (((a).length : Nat) : Int) ≤ 9223372036854775807
    | _ => False
  post := fun a r h => match a, r with
    | [.sc (.sl .int a)], [.sc (.bool r)] => r = true
    | _, _ => False
def VB_l_FnExactArchiveOpen : Prop :=
  ∀ (l0 : List Int), (l0.length : Int) ≤ (9223372036854775807 : Int) → (1048576 < (l0.length : Int) → ∃ (m1 : List (Value × List Int)), ∃ (m2 : List (Value × List Int)), [] = cat m1 m2 ∧ true = true) ∧ (¬1048576 < (l0.length : Int) →
 (l0.length : Int) ≤ 1099511627776 ∧ ∀ (l3 : List Int), l3 = l0 → (l3.length : Int) ≤ 1099511627776 ∧ ∀ (l4 : List (Int × List Int)), (true = Option.isSome (aopenD l3) ∧ l4 = Option.getD (aopenD l3) [] → (l0.length : Int) ≤ 1099511627776 ∧ ∀
 (l5 : List Int), l5 = l0 → (l5.length : Int) ≤ 1099511627776 ∧ ∀ (l6 : List (Int × Value)), (∀ (l7 : List (Value × List Int)), (∃ (e : List (Int × Value × List Int)), l6 = nvs e ∧ l7 = vls e ∧ true = Option.isSome (aopenD l5) ∧ nls e =
 Option.getD (aopenD l5) []) → ∃ (m8 : List (Int × Value × List Int)), l6 = nvs m8 ∧ (∀ (p : Value × List Int), p ∈ vls m8 → p ∈ l7) ∧ (szE (nls m8) ≤ 2000000 ∧ szE l4 ≤ 2000000) ∧ (true = decide (nls m8 = l4) → (l0.length : Int) ≤
 1099511627776 ∧ ∀ (l9 : List Int), l9 = l0 → ((l5.length : Int) ≤ 1099511627776 ∧ (l9.length : Int) ≤ 1099511627776) ∧ (true = decide (l5 = l9) → ((l5.length : Int) ≤ 1099511627776 ∧ (0 : Int) ≤ 1 ∧ (1 : Int) ≤ 1000000000000000) ∧ ∀ (l10 :
 List Int) (n11 : Int), n11 = 1 + (l5.length : Int) ∧ l10 = marks 1 (l5.length) → (n11 < 0 → ∃ (m12 : List (Value × List Int)), ∃ (m13 : List (Value × List Int)), l7 = cat m12 m13 ∧ false = true) ∧ (¬n11 < 0 → ∃ (m14 : List (Int × Value ×
 List Int)), l6 = nvs m14 ∧ (∀ (p : Value × List Int), p ∈ vls m14 → p ∈ l7) ∧ (szE (nls m14) ≤ 2000000 ∧ szE l4 ≤ 2000000) ∧ (true = decide (nls m14 = l4) → ∃ (m15 : List (Int × Value × List Int)), ∃ (m16 : List (Value × List Int)), ∃ (m17 :
 List (Value × List Int)), l6 = nvs m15 ∧ l7 = cat m16 (cat (vls m15) m17) ∧ (0 : Int) ≤ 1 ∧ endE 1 m15 ≤ 1000000000 ∧ ∃ (m18 : List (Int × Value × List Int)), nvs (markE 1 m15) = nvs m18 ∧ (∀ (p : Value × List Int), p ∈ vls m18 → p ∈ cat m16
 (cat (vls (markE 1 m15)) m17)) ∧ (szE (nls m18) ≤ 2000000 ∧ (0 : Int) ≤ 1 ∧ (1 : Int) ≤ 1000000) ∧ ∀ (n19 : Int), (n19 = if nls m18 = mrk 1 (nls m18) then 1 + szE (nls m18) else -1) → (n19 < 0 → ∃ (m20 : List (Value × List Int)), ∃ (m21 :
 List (Value × List Int)), cat m16 (cat (vls (markE 1 m15)) m17) = cat m20 m21 ∧ false = true) ∧ (¬n19 < 0 → (n19 ≠ endE 1 m15 → ∃ (m22 : List (Value × List Int)), ∃ (m23 : List (Value × List Int)), cat m16 (cat (vls (markE 1 m15)) m17) = cat
 m22 m23 ∧ false = true) ∧ (¬n19 ≠ endE 1 m15 → (l0.length : Int) ≤ 1099511627776 ∧ ∀ (l24 : List Int), l24 = l0 → (l24.length : Int) ≤ 1099511627776 ∧ ∀ (l25 : List (Int × List Int)), (true = Option.isSome (aopenD l24) ∧ l25 = Option.getD
 (aopenD l24) [] → (szE l25 ≤ 2000000 ∧ szE l4 ≤ 2000000) ∧ (true = decide (l25 = l4) → ∃ (m26 : List (Int × Value × List Int)), nvs (markE 1 m15) = nvs m26 ∧ (∀ (p : Value × List Int), p ∈ vls m26 → p ∈ cat m16 (cat (vls (markE 1 m15)) m17))
 ∧ (szE (nls m26) ≤ 2000000 ∧ (0 : Int) ≤ 1 ∧ (1 : Int) ≤ 1000000) ∧ ∀ (n27 : Int), (n27 = if nls m26 = mrk 1 (nls m26) then 1 + szE (nls m26) else -1) → (n27 < 0 → ∃ (m28 : List (Value × List Int)), ∃ (m29 : List (Value × List Int)), cat m16
 (cat (vls (markE 1 m15)) m17) = cat m28 m29 ∧ false = true) ∧ (¬n27 < 0 → (n27 ≠ endE 1 m15 → ∃ (m30 : List (Value × List Int)), ∃ (m31 : List (Value × List Int)), cat m16 (cat (vls (markE 1 m15)) m17) = cat m30 m31 ∧ false = true) ∧ (¬n27 ≠
 endE 1 m15 → ∃ (m32 : List (Value × List Int)), ∃ (m33 : List (Value × List Int)), cat m16 (cat (vls (markE 1 m15)) m17) = cat m32 m33 ∧ true = true))) ∧ (false = decide (l25 = l4) → ∃ (m34 : List (Value × List Int)), ∃ (m35 : List (Value ×
 List Int)), cat m16 (cat (vls (markE 1 m15)) m17) = cat m34 m35 ∧ false = true)) ∧ (false = Option.isSome (aopenD l24) ∧ l25 = Option.getD (aopenD l24) [] → (szE l25 ≤ 2000000 ∧ szE l4 ≤ 2000000) ∧ (true = decide (l25 = l4) → ∃ (m36 : List
 (Value × List Int)), ∃ (m37 : List (Value × List Int)), cat m16 (cat (vls (markE 1 m15)) m17) = cat m36 m37 ∧ false = true) ∧ (false = decide (l25 = l4) → ∃ (m38 : List (Value × List Int)), ∃ (m39 : List (Value × List Int)), cat m16 (cat
 (vls (markE 1 m15)) m17) = cat m38 m39 ∧ false = true))))) ∧ (false = decide (nls m14 = l4) → ∃ (m40 : List (Value × List Int)), ∃ (m41 : List (Value × List Int)), l7 = cat m40 m41 ∧ false = true))) ∧ (false = decide (l5 = l9) → ∃ (m42 :
 List (Value × List Int)), ∃ (m43 : List (Value × List Int)), l7 = cat m42 m43 ∧ false = true)) ∧ (false = decide (nls m8 = l4) → ∃ (m44 : List (Value × List Int)), ∃ (m45 : List (Value × List Int)), l7 = cat m44 m45 ∧ false = true)) ∧ ∀ (l46
 : List (Value × List Int)), (∃ (e : List (Int × Value × List Int)), l6 = nvs e ∧ l46 = vls e ∧ false = Option.isSome (aopenD l5) ∧ nls e = Option.getD (aopenD l5) []) → ∃ (m47 : List (Int × Value × List Int)), l6 = nvs m47 ∧ (∀ (p : Value ×
 List Int), p ∈ vls m47 → p ∈ l46) ∧ (szE (nls m47) ≤ 2000000 ∧ szE l4 ≤ 2000000) ∧ (true = decide (nls m47 = l4) → ∃ (m48 : List (Value × List Int)), ∃ (m49 : List (Value × List Int)), l46 = cat m48 m49 ∧ false = true) ∧ (false = decide (nls
 m47 = l4) → ∃ (m50 : List (Value × List Int)), ∃ (m51 : List (Value × List Int)), l46 = cat m50 m51 ∧ false = true)) ∧ (false = Option.isSome (aopenD l3) ∧ l4 = Option.getD (aopenD l3) [] → (l0.length : Int) ≤ 1099511627776 ∧ ∀ (l52 : List
 Int), l52 = l0 → (l52.length : Int) ≤ 1099511627776 ∧ ∀ (l53 : List (Int × Value)), (∀ (l54 : List (Value × List Int)), (∃ (e : List (Int × Value × List Int)), l53 = nvs e ∧ l54 = vls e ∧ true = Option.isSome (aopenD l52) ∧ nls e =
 Option.getD (aopenD l52) []) → ∃ (m55 : List (Int × Value × List Int)), l53 = nvs m55 ∧ (∀ (p : Value × List Int), p ∈ vls m55 → p ∈ l54) ∧ (szE (nls m55) ≤ 2000000 ∧ szE l4 ≤ 2000000) ∧ (true = decide (nls m55 = l4) → ∃ (m56 : List (Value ×
 List Int)), ∃ (m57 : List (Value × List Int)), l54 = cat m56 m57 ∧ false = true) ∧ (false = decide (nls m55 = l4) → ∃ (m58 : List (Value × List Int)), ∃ (m59 : List (Value × List Int)), l54 = cat m58 m59 ∧ false = true)) ∧ ∀ (l60 : List
 (Value × List Int)), (∃ (e : List (Int × Value × List Int)), l53 = nvs e ∧ l60 = vls e ∧ false = Option.isSome (aopenD l52) ∧ nls e = Option.getD (aopenD l52) []) → ∃ (m61 : List (Int × Value × List Int)), l53 = nvs m61 ∧ (∀ (p : Value ×
 List Int), p ∈ vls m61 → p ∈ l60) ∧ (szE (nls m61) ≤ 2000000 ∧ szE l4 ≤ 2000000) ∧ (true = decide (nls m61 = l4) → (l0.length : Int) ≤ 1099511627776 ∧ ∀ (l62 : List Int), l62 = l0 → ((l52.length : Int) ≤ 1099511627776 ∧ (l62.length : Int) ≤
 1099511627776) ∧ (true = decide (l52 = l62) → ((l52.length : Int) ≤ 1099511627776 ∧ (0 : Int) ≤ 1 ∧ (1 : Int) ≤ 1000000000000000) ∧ ∀ (l63 : List Int) (n64 : Int), n64 = 1 + (l52.length : Int) ∧ l63 = marks 1 (l52.length) → (n64 < 0 → ∃ (m65
 : List (Value × List Int)), ∃ (m66 : List (Value × List Int)), l60 = cat m65 m66 ∧ false = true) ∧ (¬n64 < 0 → ∃ (m67 : List (Int × Value × List Int)), l53 = nvs m67 ∧ (∀ (p : Value × List Int), p ∈ vls m67 → p ∈ l60) ∧ (szE (nls m67) ≤
 2000000 ∧ szE l4 ≤ 2000000) ∧ (true = decide (nls m67 = l4) → ∃ (m68 : List (Int × Value × List Int)), ∃ (m69 : List (Value × List Int)), ∃ (m70 : List (Value × List Int)), l53 = nvs m68 ∧ l60 = cat m69 (cat (vls m68) m70) ∧ (0 : Int) ≤ 1 ∧
 endE 1 m68 ≤ 1000000000 ∧ ∃ (m71 : List (Int × Value × List Int)), nvs (markE 1 m68) = nvs m71 ∧ (∀ (p : Value × List Int), p ∈ vls m71 → p ∈ cat m69 (cat (vls (markE 1 m68)) m70)) ∧ (szE (nls m71) ≤ 2000000 ∧ (0 : Int) ≤ 1 ∧ (1 : Int) ≤
 1000000) ∧ ∀ (n72 : Int), (n72 = if nls m71 = mrk 1 (nls m71) then 1 + szE (nls m71) else -1) → (n72 < 0 → ∃ (m73 : List (Value × List Int)), ∃ (m74 : List (Value × List Int)), cat m69 (cat (vls (markE 1 m68)) m70) = cat m73 m74 ∧ false =
 true) ∧ (¬n72 < 0 → (n72 ≠ endE 1 m68 → ∃ (m75 : List (Value × List Int)), ∃ (m76 : List (Value × List Int)), cat m69 (cat (vls (markE 1 m68)) m70) = cat m75 m76 ∧ false = true) ∧ (¬n72 ≠ endE 1 m68 → (l0.length : Int) ≤ 1099511627776 ∧ ∀
 (l77 : List Int), l77 = l0 → (l77.length : Int) ≤ 1099511627776 ∧ ∀ (l78 : List (Int × List Int)), (true = Option.isSome (aopenD l77) ∧ l78 = Option.getD (aopenD l77) [] → (szE l78 ≤ 2000000 ∧ szE l4 ≤ 2000000) ∧ (true = decide (l78 = l4) →
 ∃ (m79 : List (Value × List Int)), ∃ (m80 : List (Value × List Int)), cat m69 (cat (vls (markE 1 m68)) m70) = cat m79 m80 ∧ false = true) ∧ (false = decide (l78 = l4) → ∃ (m81 : List (Value × List Int)), ∃ (m82 : List (Value × List Int)),
 cat m69 (cat (vls (markE 1 m68)) m70) = cat m81 m82 ∧ false = true)) ∧ (false = Option.isSome (aopenD l77) ∧ l78 = Option.getD (aopenD l77) [] → (szE l78 ≤ 2000000 ∧ szE l4 ≤ 2000000) ∧ (true = decide (l78 = l4) → ∃ (m83 : List (Int × Value
 × List Int)), nvs (markE 1 m68) = nvs m83 ∧ (∀ (p : Value × List Int), p ∈ vls m83 → p ∈ cat m69 (cat (vls (markE 1 m68)) m70)) ∧ (szE (nls m83) ≤ 2000000 ∧ (0 : Int) ≤ 1 ∧ (1 : Int) ≤ 1000000) ∧ ∀ (n84 : Int), (n84 = if nls m83 = mrk 1 (nls
 m83) then 1 + szE (nls m83) else -1) → (n84 < 0 → ∃ (m85 : List (Value × List Int)), ∃ (m86 : List (Value × List Int)), cat m69 (cat (vls (markE 1 m68)) m70) = cat m85 m86 ∧ false = true) ∧ (¬n84 < 0 → (n84 ≠ endE 1 m68 → ∃ (m87 : List
 (Value × List Int)), ∃ (m88 : List (Value × List Int)), cat m69 (cat (vls (markE 1 m68)) m70) = cat m87 m88 ∧ false = true) ∧ (¬n84 ≠ endE 1 m68 → ∃ (m89 : List (Value × List Int)), ∃ (m90 : List (Value × List Int)), cat m69 (cat (vls (markE
 1 m68)) m70) = cat m89 m90 ∧ true = true))) ∧ (false = decide (l78 = l4) → ∃ (m91 : List (Value × List Int)), ∃ (m92 : List (Value × List Int)), cat m69 (cat (vls (markE 1 m68)) m70) = cat m91 m92 ∧ false = true))))) ∧ (false = decide (nls
 m67 = l4) → ∃ (m93 : List (Value × List Int)), ∃ (m94 : List (Value × List Int)), l60 = cat m93 m94 ∧ false = true))) ∧ (false = decide (l52 = l62) → ∃ (m95 : List (Value × List Int)), ∃ (m96 : List (Value × List Int)), l60 = cat m95 m96 ∧
 false = true)) ∧ (false = decide (nls m61 = l4) → ∃ (m97 : List (Value × List Int)), ∃ (m98 : List (Value × List Int)), l60 = cat m97 m98 ∧ false = true)))
theorem vb_l_FnExactArchiveOpen : VB_l_FnExactArchiveOpen := by
  unfold VB_l_FnExactArchiveOpen
  intro b hb
  have out : ∀ {h : HH} {p : Prop}, p → ∃ m m' : List (Value × List Int), h = cat m m' ∧ p := fun hp => ⟨[], _, rfl, hp⟩
  refine ⟨fun _ => out rfl, fun h1 => ⟨by omega, fun l3 e3 => ?_⟩⟩
  have e3 := e3.symm; subst e3
  refine ⟨by omega, fun w => ⟨?_, ?_⟩⟩
  · rintro ⟨hok, hw⟩
    have hs5 : szE w ≤ 205 := by
      obtain ⟨es, hes⟩ := Option.isSome_iff_exists.1 hok.symm
      rw [hw, hes]; exact (aopen_facts hes).2.2.2.1
    have hsw : szE w ≤ 2000000 := by omega
    refine ⟨by omega, fun l5 e5 => ?_⟩
    have e5 := e5.symm; subst e5
    refine ⟨by omega, fun xs => ⟨?_, ?_⟩⟩
    · rintro _ ⟨e, rfl, rfl, _, he⟩
      have hew : nls e = w := by rw [he, hw]
      have hse : szE (nls e) ≤ 205 := by rw [hew]; exact hs5
      have hse0 := szE_nonneg (nls e)
      have hen := endE_eq 1 e
      have hsm : szE (nls (markE 1 e)) ≤ 2000000 := by rw [nls_markE, szE_mrk]; omega
      refine ⟨e, rfl, fun _ h => h, ⟨by omega, hsw⟩, fun _ => ⟨by omega, fun l9 e9 => ?_⟩, fun h => absurd h (by simp [hew])⟩
      have e9 := e9.symm; subst e9
      refine ⟨⟨by omega, by omega⟩, fun _ => ⟨⟨by omega, by omega, by omega⟩, ?_⟩, fun h => absurd h (by simp)⟩
      rintro _ _ ⟨rfl, rfl⟩
      refine ⟨fun h => by omega, fun _ => ⟨e, rfl, fun _ h => h, ⟨by omega, hsw⟩, fun _ => ⟨e, [], [], rfl, by rw [cat_is, cat_is]; simp, by omega, by omega, markE 1 e, rfl, fun p hp => (by rw [cat_is, cat_is]; simpa using hp), ⟨hsm, by omega, by omega⟩, fun n19 h19 => ?_⟩, fun h => absurd h (by simp [hew])⟩⟩
      rw [nls_markE, mrk_mrk, if_pos rfl, szE_mrk] at h19
      refine ⟨fun h => by omega, fun _ => ⟨fun h => absurd (h19.trans hen.symm) h, fun _ => ⟨by omega, fun l24 e24 => ?_⟩⟩⟩
      have e24 := e24.symm; subst e24
      refine ⟨by omega, fun w3 => ⟨?_, ?_⟩⟩
      · rintro ⟨_, hw3⟩
        have hw3 : w3 = w := by rw [hw3, hw]
        subst hw3
        refine ⟨⟨hsw, hsw⟩, fun _ => ⟨markE 1 e, rfl, fun p hp => (by rw [cat_is, cat_is]; simpa using hp), ⟨hsm, by omega, by omega⟩, fun n27 h27 => ?_⟩, fun h => absurd h (by simp)⟩
        rw [nls_markE, mrk_mrk, if_pos rfl, szE_mrk] at h27
        exact ⟨fun h => by omega, fun _ => ⟨fun h => absurd (h27.trans hen.symm) h, fun _ => out rfl⟩⟩
      · rintro ⟨h, _⟩
        rw [← hok] at h; cases h
    · rintro _ ⟨e, rfl, rfl, h2, he⟩
      rw [← hok] at h2; cases h2
  · rintro ⟨hok, hw⟩
    have hs5 : szE w ≤ 205 := by
      cases hq : aopenD b with
      | none => rw [hw, hq]; decide
      | some v => rw [hq] at hok; cases hok
    have hsw : szE w ≤ 2000000 := by omega
    refine ⟨by omega, fun l5 e5 => ?_⟩
    have e5 := e5.symm; subst e5
    refine ⟨by omega, fun xs => ⟨?_, ?_⟩⟩
    · rintro _ ⟨e, rfl, rfl, h2, he⟩
      rw [← hok] at h2; cases h2
    · rintro _ ⟨e, rfl, rfl, _, he⟩
      have hew : nls e = w := by rw [he, hw]
      have hse : szE (nls e) ≤ 205 := by rw [hew]; exact hs5
      have hse0 := szE_nonneg (nls e)
      have hen := endE_eq 1 e
      have hsm : szE (nls (markE 1 e)) ≤ 2000000 := by rw [nls_markE, szE_mrk]; omega
      refine ⟨e, rfl, fun _ h => h, ⟨by omega, hsw⟩, fun _ => ⟨by omega, fun l9 e9 => ?_⟩, fun h => absurd h (by simp [hew])⟩
      have e9 := e9.symm; subst e9
      refine ⟨⟨by omega, by omega⟩, fun _ => ⟨⟨by omega, by omega, by omega⟩, ?_⟩, fun h => absurd h (by simp)⟩
      rintro _ _ ⟨rfl, rfl⟩
      refine ⟨fun h => by omega, fun _ => ⟨e, rfl, fun _ h => h, ⟨by omega, hsw⟩, fun _ => ⟨e, [], [], rfl, by rw [cat_is, cat_is]; simp, by omega, by omega, markE 1 e, rfl, fun p hp => (by rw [cat_is, cat_is]; simpa using hp), ⟨hsm, by omega, by omega⟩, fun n19 h19 => ?_⟩, fun h => absurd h (by simp [hew])⟩⟩
      rw [nls_markE, mrk_mrk, if_pos rfl, szE_mrk] at h19
      refine ⟨fun h => by omega, fun _ => ⟨fun h => absurd (h19.trans hen.symm) h, fun _ => ⟨by omega, fun l24 e24 => ?_⟩⟩⟩
      have e24 := e24.symm; subst e24
      refine ⟨by omega, fun w3 => ⟨?_, ?_⟩⟩
      · rintro ⟨h, _⟩
        rw [← hok] at h; cases h
      · rintro ⟨_, hw3⟩
        have hw3 : w3 = w := by rw [hw3, hw]
        subst hw3
        refine ⟨⟨hsw, hsw⟩, fun _ => ⟨markE 1 e, rfl, fun p hp => (by rw [cat_is, cat_is]; simpa using hp), ⟨hsm, by omega, by omega⟩, fun n27 h27 => ?_⟩, fun h => absurd h (by simp)⟩
        rw [nls_markE, mrk_mrk, if_pos rfl, szE_mrk] at h27
        exact ⟨fun h => by omega, fun _ => ⟨fun h => absurd (h27.trans hen.symm) h, fun _ => out rfl⟩⟩
theorem mf_l_FnExactArchiveOpen : MeetsF Try.prog 3 4 F_l_FnExactArchiveOpen :=
  meetsF tokB Try.func4 (by kernel_rfl) (l := [(10, S_l_eqIntS), (11, S_l_eqEntryS), (13, S_l_markIntS), (15, S_s_ArchiveOpen), (16, S_l_toIntS), (17, S_i_ArchiveOpen), (18, S_l_heldEntryS)]) ⟨m_l_eqIntS, m_l_eqEntryS, m_l_markIntS, m_s_ArchiveOpen, m_l_toIntS, m_i_ArchiveOpen, m_l_heldEntryS, trivial⟩ (sp := [(26, .call 17 (famBF F_i_ArchiveOpen)), (31, .call 11 (lendBF S_l_eqEntryS)), (51, .call 11 (lendBF S_l_eqEntryS)), (61, .call 12 (markBF 53)), (64, .call 18 (lendBF S_l_heldEntryS)), (87, .call 18 (lendBF S_l_heldEntryS))]) ⟨fam_ok mf_i_ArchiveOpen, lend_ok m_l_eqEntryS, lend_ok m_l_eqEntryS, mark_ok mc_l_markEntryS, lend_ok m_l_heldEntryS, lend_ok m_l_heldEntryS, trivial⟩ (ann := []) vb_l_FnExactArchiveOpen (by kernel_rfl)
end Go.Proofs.Ytkkgpcbkkahieaa
