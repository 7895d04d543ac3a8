/-
  FnExactArchivePack: conditions of functions with lists that lie aside, and that they hold.
-/
import Derived.Test.YtkkgpcbkkahieaaMY
import Derived.Test.YtkkgpcbkkahieaaT
import Derived.Test.YtkkgpcbkkahieaaSa
import Derived.Test.YtkkgpcbkkahieaaSg
import Derived.Test.YtkkgpcbkkahieaaSi
import Derived.Test.YtkkgpcbkkahieaaSj
import Derived.Test.YtkkgpcbkkahieaaSk
import Derived.Test.YtkkgpcbkkahieaaSl
import Derived.Test.YtkkgpcbkkahieaaSm
import Derived.Test.YtkkgpcbkkahieaaSn
import Derived.Test.YtkkgpcbkkahieaaSo
import Derived.Test.YtkkgpcbkkahieaaSp
import Derived.Test.YtkkgpcbkkahieaaSs
set_option linter.unusedVariables false
set_option linter.unusedSimpArgs false
open Go Go.Ax Go.Mx
namespace Go.Proofs.Ytkkgpcbkkahieaa
def tisB : List (Nat × TI) := [(2, .int .i64), (3, .int .i64), (4, .bool), (5, .int .u8), (9, .str), (22, .slice 50 .ent), (24, .slice 3 .int), (27, .slice 53 .ev), (38, .struct [.nil, .nil, .bool false]), (39, .struct [.nil, .nil, .bool false]), (41, .struct [.nil, .nil, .bool false]), (49, .struct [.int .i64 0, .nil]), (50, .struct [.int .i64 0, .nil]), (53, .struct [.int .i64 0, .nil]), (68, .slice 71 .r2), (70, .struct [.int .i64 0, .int .i64 0]), (71, .struct [.int .i64 0, .int .i64 0]), (73, .slice 76 .r3), (75, .struct [.int .i64 0, .int .i64 0, .int .i64 0]), (76, .struct [.int .i64 0, .int .i64 0, .int .i64 0]), (82, .slice 84 .ent), (83, .struct [.int .i64 0, .nil]), (84, .struct [.int .i64 0, .nil])]
theorem tokB : TOK Try.prog (lk tisB) := tysB_ok (by kernel_rfl)
theorem m1_l_markIntS : Mark1 Try.prog 3 13 :=
  mark1_of_meets m_l_markIntS rfl rfl rfl (fun l k h0 h1 h2 => ⟨by omega, h0, by omega⟩) (fun l l2 k r h => ⟨by rw [markL_eq]; exact h.2, h.1⟩)
def S_l_toEntry_o : FSpec where
  args := [.agg [.int, .sl .int]]
  outs := [.agg [.int, .own 3 .int]]
  pre := fun a => match a with
    | [.agg [.int _ n, .sl .int l]] => (((l).length : Nat) : Int) ≤ 1099511627776
    | _ => False
  post := fun a r => match a, r with
    | [.agg [.int _ n, .sl .int l]], [.agg [.int _ n2, .sl .int l2]] => n2 = n ∧ l2 = l
    | _, _ => False
  kept := false
def VB_l_toEntry_o : Prop :=
  ∀ (n0 : Int) (l1 : List Int), (l1.length : Int) ≤ 1099511627776 → (l1.length : Int) ≤ 1099511627776 ∧ ∀ (l2 : List Int), l2 = l1 → n0 = n0 ∧ l2 = l1
theorem vb_l_toEntry_o : VB_l_toEntry_o := by
  unfold VB_l_toEntry_o
  repeat' (first | apply And.intro | (rintro _ _ _ ⟨rfl, rfl, _, _⟩) | (rintro _ _ _ ⟨rfl, _, _, _⟩) | (rintro _ _ _ _ ⟨rfl, _, _, _⟩) | (rintro _ _ ⟨rfl, _⟩) | intro _)
  all_goals try (first | omega | with_reducible rfl | with_reducible assumption | (simp only [List.length_append, List.length_take, List.length_drop, List.length_set, List.length_cons, List.length_nil, List.length_replicate, Int.toNat_natCast] <;> omega) | (simp <;> omega))
theorem m_l_toEntry_o : Meets Try.prog 29 S_l_toEntry_o :=
  meets tokB mixed Try.func29 (by kernel_rfl) (l := [(16, S_l_toIntS)]) ⟨m_l_toIntS, trivial⟩ (ann := []) vb_l_toEntry_o (by kernel_rfl)
def F_l_toEntryS : FB where
  args := [.sc (.sl .ent)]
  outs := [.sc (.own 53 .ev)]
  pre := fun a => match a with
    | [.sc (.sl .ent a)] => szE a ≤ 2000000
    | _ => False
  post := fun a r h => match a, r with
    | [.sc (.sl .ent a)], [.sc (.sl .ev r)] => ∃ e : List E3, r = nvs e ∧ h = vls e ∧ nls e = a
    | _, _ => False
def VB_l_toEntryS : Prop :=
  ∀ (l0 : List (Int × List Int)), szE l0 ≤ 2000000 → (l0.length : Int) = (l0.length : Int) ∧ 0 ≤ (l0.length : Int) ∧ (l0.length : Int) ≤ 1099511627776 ∧ ∃ (I1 : List (Value × List Int) → Int → List (Int × Value) → Prop), ∃ (m2 : Int → List
 (Int × Value) → Nat), I1 [] 0 (List.replicate (Int.toNat (l0.length : Int)) (0, Value.slice none 0 0)) ∧ ∀ (l3 : List (Value × List Int)) (n4 : Int) (l5 : List (Int × Value)), I1 l3 n4 l5 → (n4 < (l0.length : Int) → 0 ≤ n4 ∧ n4 < (l0.length
 : Int) ∧ (↑(List.length (Prod.snd (List.getD l0 (n4.toNat) (0, [])))) : Int) ≤ 1099511627776 ∧ ∀ (n6 : Int) (l7 : List Int), n6 = Prod.fst (List.getD l0 (n4.toNat) (0, [])) ∧ l7 = Prod.snd (List.getD l0 (n4.toNat) (0, [])) → ∀ (x8 : Value),
 0 ≤ n4 ∧ n4 < (l5.length : Int) ∧ n4.toNat < l5.length ∧ (-9223372036854775808 ≤ n4 + 1 ∧ n4 + (1 : Int) ≤ (9223372036854775807 : Int)) ∧ I1 (cat l3 [(x8, l7)]) (n4 + 1) (List.set l5 (n4.toNat) (n6, x8)) ∧ m2 (n4 + 1) (List.set l5 (n4.toNat)
 (n6, x8)) < m2 n4 l5) ∧ (¬n4 < (l0.length : Int) → ∃ (m9 : List (Value × List Int)), ∃ (m10 : List (Value × List Int)), l3 = cat m9 m10 ∧ ∃ (e : List (Int × Value × List Int)), l5 = nvs e ∧ m9 = vls e ∧ nls e = l0)
theorem vb_l_toEntryS : VB_l_toEntryS := by
  unfold VB_l_toEntryS
  intro l hs
  have hsz := sumIn_nonneg l
  have hz : (l.length : Int) ≤ 2000000 := by unfold szE at hs; omega
  refine ⟨rfl, by omega, by omega, ?_⟩
  refine ⟨fun h i o => 0 ≤ i ∧ i ≤ l.length ∧ ∃ e : List E3, nls e = l.take i.toNat ∧ o = nvs e ++ List.replicate (l.length - i.toNat) (0, Value.slice none 0 0) ∧ h = vls e, fun i o => (l.length - i).toNat, ⟨by omega, by omega, [], rfl, by simp [nvs], rfl⟩, ?_⟩
  rintro h i o ⟨h0, h1, e, he, rfl, rfl⟩
  have hel := congrArg List.length he
  rw [nls_length, List.length_take] at hel
  refine ⟨fun hlt => ?_, fun hge => ?_⟩
  · have hl := ent_len h0 hlt
    obtain ⟨n, hn⟩ : ∃ n, l.length - i.toNat = n + 1 := ⟨l.length - i.toNat - 1, by omega⟩
    have hn' : l.length - (i + 1).toNat = n := by omega
    have hlen : (nvs e ++ List.replicate (l.length - i.toNat) ((0 : Int), Value.slice none 0 0)).length = l.length := by rw [List.length_append, nvs_length, List.length_replicate]; omega
    refine ⟨h0, hlt, by omega, ?_⟩
    rintro a b ⟨rfl, rfl⟩ u
    refine ⟨h0, by rw [hlen]; exact hlt, by rw [hlen]; omega, ⟨by omega, by omega⟩, ⟨by omega, by omega, e ++ [((l.getD i.toNat (0, [])).1, u, (l.getD i.toNat (0, [])).2)], ?_, ?_, ?_⟩, by dsimp only; omega⟩
    · rw [nls_app, he, take_lt (0, []) h0 hlt]; rfl
    · rw [hn, hn', List.replicate_succ, nvs_app, show i.toNat = (nvs e).length by rw [nvs_length]; omega, set_mid, List.append_assoc]; rfl
    · rw [cat_is, vls_app]; rfl
  · have : l.length - i.toNat = 0 := by omega
    refine ⟨vls e, [], (by rw [cat_is, List.append_nil]), e, by rw [this]; simp, rfl, by rw [he, take_ge hge]⟩
theorem mf_l_toEntryS : MeetsF Try.prog 3 8 F_l_toEntryS :=
  meetsF tokB Try.func8 (by kernel_rfl) (l := [(29, S_l_toEntry_o)]) ⟨m_l_toEntry_o, trivial⟩ (sp := [(20, .hide)]) trivial (ann := [(3, [.slot 4 .int, .arr 3 53 .ev])]) vb_l_toEntryS (by kernel_rfl)
def VB_l_markEntryS : Prop :=
  ∀ (l0 : List (Int × Value × List Int)) (n1 : Int), 0 ≤ n1 → endE n1 l0 ≤ 1000000000 → ∃ (I2 : List (Value × List Int) → Int → Int → List (Int × Value) → Prop), ∃ (m3 : Int → Int → List (Int × Value) → Nat), I2 (vls l0) n1 0 (nvs l0) ∧ ∀ (l4
 : List (Value × List Int)) (n5 n6 : Int) (l7 : List (Int × Value)), I2 l4 n5 n6 l7 → (n6 < (l7.length : Int) → 0 ≤ n6 ∧ n6 < (l7.length : Int) ∧ n6.toNat < l7.length ∧ (-9223372036854775808 ≤ n5 + 1 ∧ n5 + (1 : Int) ≤ (9223372036854775807 :
 Int)) ∧ 0 ≤ n6 ∧ n6 < (↑(List.length (List.set l7 (n6.toNat) (n5, Prod.snd (List.getD l7 (n6.toNat) (0, Value.slice none 0 0))))) : Int) ∧ n6.toNat < List.length (List.set l7 (n6.toNat) (n5, Prod.snd (List.getD l7 (n6.toNat) (0, Value.slice
 none 0 0)))) ∧ ∃ (m8 : List Int), ∃ (m9 : List (Value × List Int)), ∃ (m10 : List (Value × List Int)), l4 = cat m9 ((Prod.snd (List.getD (List.set l7 (n6.toNat) (n5, Prod.snd (List.getD l7 (n6.toNat) (0, Value.slice none 0 0)))) (n6.toNat)
 (0, Value.slice none 0 0)), m8) :: m10) ∧ 0 ≤ n5 + 1 ∧ n5 + (1 : Int) ≤ 1000000000 ∧ (↑(List.length m8) : Int) ≤ 1000000000 ∧ (-9223372036854775808 ≤ n6 + 1 ∧ n6 + (1 : Int) ≤ (9223372036854775807 : Int)) ∧ I2 (cat m9 ((Prod.snd (List.getD
 (List.set l7 (n6.toNat) (n5, Prod.snd (List.getD l7 (n6.toNat) (0, Value.slice none 0 0)))) (n6.toNat) (0, Value.slice none 0 0)), markL (n5 + 1) (List.length m8)) :: m10)) (n5 + 1 + (↑(List.length m8) : Int)) (n6 + 1) (List.set l7
 (n6.toNat) (n5, Prod.snd (List.getD l7 (n6.toNat) (0, Value.slice none 0 0)))) ∧ m3 (n5 + 1 + (↑(List.length m8) : Int)) (n6 + 1) (List.set l7 (n6.toNat) (n5, Prod.snd (List.getD l7 (n6.toNat) (0, Value.slice none 0 0)))) < m3 n5 n6 l7) ∧
 (¬n6 < (l7.length : Int) → l7 = nvs (markE n1 l0) ∧ n5 = endE n1 l0 ∧ l4 = vls (markE n1 l0))
theorem vb_l_markEntryS : VB_l_markEntryS := by
  unfold VB_l_markEntryS
  intro e n hn0 hn1
  have hel := endE_len n e
  refine ⟨fun h k i a => 0 ≤ i ∧ i ≤ e.length ∧ k = endE n (e.take i.toNat) ∧ a = nvs (markE n (e.take i.toNat) ++ e.drop i.toNat) ∧ h = vls (markE n (e.take i.toNat) ++ e.drop i.toNat), fun k i a => ((a.length : Int) - i).toNat, ⟨by omega, by omega, rfl, rfl, rfl⟩, ?_⟩
  rintro h k i a ⟨h0, h1, rfl, rfl, rfl⟩
  have hlen : (nvs (markE n (e.take i.toNat) ++ e.drop i.toNat)).length = e.length := by rw [nvs_length, List.length_append, markE_length, List.length_take, List.length_drop]; omega
  rw [hlen]
  refine ⟨fun hlt => ?_, fun hge => ?_⟩
  · obtain ⟨x, e1, e2, e3, e4⟩ := at_mid h0 hlt
    have hk : endE n (e.take (i + 1).toNat) = endE n (e.take i.toNat) + 1 + (x.2.2.length : Int) := by rw [e2, endE_app]; rfl
    have hk0 := endE_ge n (e.take i.toNat)
    have hk1 : endE n (e.take (i + 1).toNat) ≤ endE n e := by
      have h := endE_app n (e.take (i + 1).toNat) (e.drop (i + 1).toNat)
      rw [List.take_append_drop] at h
      have := endE_ge (endE n (e.take (i + 1).toNat)) (e.drop (i + 1).toNat)
      omega
    have hml : (markE n (e.take i.toNat)).length = i.toNat := by rw [markE_length, e4]
    have hnl : (nvs (markE n (e.take i.toNat))).length = i.toNat := by rw [nvs_length, hml]
    have hl' : ∀ y, ((nvs (markE n (e.take i.toNat)) ++ (x.1, x.2.1) :: nvs (e.drop (i + 1).toNat)).set i.toNat y).length = e.length := fun y => by
      rw [List.length_set, List.length_append, hnl, List.length_cons, nvs_length, List.length_drop]; omega
    rw [e3, nvs_app, vls_app, nvs_cons, vls_cons]
    have g1 : (nvs (markE n (e.take i.toNat)) ++ (x.1, x.2.1) :: nvs (e.drop (i + 1).toNat)).getD i.toNat (0, Value.slice none 0 0) = (x.1, x.2.1) := getD_mid' hnl _ _ _
    have g2 : ∀ y, (nvs (markE n (e.take i.toNat)) ++ (x.1, x.2.1) :: nvs (e.drop (i + 1).toNat)).set i.toNat y = nvs (markE n (e.take i.toNat)) ++ y :: nvs (e.drop (i + 1).toNat) := fun y => set_mid' hnl _ _ _
    have g3 : ∀ y, (nvs (markE n (e.take i.toNat)) ++ y :: nvs (e.drop (i + 1).toNat)).getD i.toNat (0, Value.slice none 0 0) = y := fun y => getD_mid' hnl _ _ _
    have hl2 : ∀ y, (nvs (markE n (e.take i.toNat)) ++ y :: nvs (e.drop (i + 1).toNat)).length = e.length := fun y => by rw [← g2 y, hl']
    rw [g1]
    simp only [g2, g3, hl2]
    refine ⟨h0, hlt, by omega, ⟨by omega, by omega⟩, h0, hlt, by omega, x.2.2, vls (markE n (e.take i.toNat)), vls (e.drop (i + 1).toNat), by rw [cat_is], by omega, by omega, by omega, ⟨by omega, by omega⟩, ⟨by omega, by omega, hk.symm, ?_, ?_⟩, by omega⟩
    · rw [e2, markE_app, nvs_app, nvs_app, List.append_assoc]; rfl
    · rw [cat_is, e2, markE_app, vls_app, vls_app, List.append_assoc]; rfl
  · have hd : e.drop i.toNat = [] := List.drop_eq_nil_of_le (by omega)
    rw [take_ge hge, hd, List.append_nil]
    exact ⟨rfl, rfl, rfl⟩
theorem mc_l_markEntryS : MarkC Try.prog 3 53 12 :=
  markC tokB Try.func12 (by kernel_rfl) (l := [(13, S_l_markIntS)]) ⟨m_l_markIntS, trivial⟩ (sp := [(25, .call 13 mark1BF)]) ⟨mark1_ok m1_l_markIntS, trivial⟩ (ann := [(2, [.slot 1 .int, .slot 5 .int, .arr 0 53 .ev])]) vb_l_markEntryS (by kernel_rfl)
def F_l_FnExactArchivePack : FB where
  args := [.sc (.sl .ent)]
  outs := [.sc .bool]
  pre := fun a => match a with
    | [.sc (.sl .ent a)] => (((a).length : Nat) : Int) ≤ 9223372036854775807 ∧ Ez a
    | _ => False
  post := fun a r h => match a, r with
    | [.sc (.sl .ent a)], [.sc (.bool r)] => r = true
    | _, _ => False
def VB_l_FnExactArchivePack : Prop :=
  ∀ (l0 : List (Int × List Int)), (l0.length : Int) ≤ (9223372036854775807 : Int) ∧ Ez l0 → (((l0.length : Int) ≤ (9223372036854775807 : Int) ∧ Ez l0) ∧ (0 : Int) ≤ 1048576 ∧ (1048576 : Int) ≤ 1000000000000000000) ∧ ∀ (n1 : Int), (n1 = if
 1048576 - szE l0 < 0 then -1 else 1048576 - szE l0) → (n1 < 0 → ∃ (m2 : List (Value × List Int)), ∃ (m3 : List (Value × List Int)), [] = cat m2 m3 ∧ true = true) ∧ (¬n1 < 0 → szE l0 ≤ 2000000 ∧ ∀ (l4 : List (Int × List Int)), l4 = l0 → szE
 l4 ≤ 2000000 ∧ ∀ (l5 : List Int), (true = entOk l4 ∧ l5 = Option.getD (archD l4) [] → szE l0 ≤ 2000000 ∧ ∀ (l6 : List (Int × Value)) (l7 : List (Value × List Int)), (∃ (e : List (Int × Value × List Int)), l6 = nvs e ∧ l7 = vls e ∧ nls e =
 l0) → ∃ (m8 : List (Int × Value × List Int)), l6 = nvs m8 ∧ (∀ (p : Value × List Int), p ∈ vls m8 → p ∈ l7) ∧ szE (nls m8) ≤ 2000000 ∧ ∀ (l9 : List Int), (true = entOk (nls m8) ∧ l9 = Option.getD (archD (nls m8)) [] → ((l9.length : Int) ≤
 1099511627776 ∧ (l5.length : Int) ≤ 1099511627776) ∧ (true = decide (l9 = l5) → szE l0 ≤ 2000000 ∧ ∀ (l10 : List (Int × List Int)), l10 = l0 → ∃ (m11 : List (Int × Value × List Int)), l6 = nvs m11 ∧ (∀ (p : Value × List Int), p ∈ vls m11 → p
 ∈ l7) ∧ (szE (nls m11) ≤ 2000000 ∧ szE l10 ≤ 2000000) ∧ (true = decide (nls m11 = l10) → ∃ (m12 : List (Int × Value × List Int)), ∃ (m13 : List (Value × List Int)), ∃ (m14 : List (Value × List Int)), l6 = nvs m12 ∧ l7 = cat m13 (cat (vls
 m12) m14) ∧ (0 : Int) ≤ 1 ∧ endE 1 m12 ≤ 1000000000 ∧ (endE 1 m12 < 0 → ∃ (m15 : List (Value × List Int)), ∃ (m16 : List (Value × List Int)), cat m13 (cat (vls (markE 1 m12)) m14) = cat m15 m16 ∧ false = true) ∧ (¬endE 1 m12 < 0 →
 ((l9.length : Int) ≤ 1099511627776 ∧ (l5.length : Int) ≤ 1099511627776) ∧ (true = decide (l9 = l5) → ((l9.length : Int) ≤ 1099511627776 ∧ (0 : Int) ≤ 1 ∧ (1 : Int) ≤ 1000000000000000) ∧ ∀ (l17 : List Int) (n18 : Int), n18 = 1 + (l9.length :
 Int) ∧ l17 = marks 1 (l9.length) → ((l17.length : Int) ≤ 1099511627776 ∧ (0 : Int) ≤ 1 ∧ (1 : Int) ≤ 1000000000000000) ∧ ∀ (n19 : Int), (n19 = if l17 = marks 1 (l17.length) then 1 + (l17.length : Int) else -1) → (n19 < 0 → ∃ (m20 : List
 (Value × List Int)), ∃ (m21 : List (Value × List Int)), cat m13 (cat (vls (markE 1 m12)) m14) = cat m20 m21 ∧ false = true) ∧ (¬n19 < 0 → (n19 ≠ n18 → ∃ (m22 : List (Value × List Int)), ∃ (m23 : List (Value × List Int)), cat m13 (cat (vls
 (markE 1 m12)) m14) = cat m22 m23 ∧ false = true) ∧ (¬n19 ≠ n18 → szE l0 ≤ 2000000 ∧ ∀ (l24 : List (Int × List Int)), l24 = l0 → szE l24 ≤ 2000000 ∧ ∀ (l25 : List Int), (true = entOk l24 ∧ l25 = Option.getD (archD l24) [] → ((l25.length :
 Int) ≤ 1099511627776 ∧ (l5.length : Int) ≤ 1099511627776) ∧ (true = decide (l25 = l5) → ((l17.length : Int) ≤ 1099511627776 ∧ (0 : Int) ≤ 1 ∧ (1 : Int) ≤ 1000000000000000) ∧ ∀ (n26 : Int), (n26 = if l17 = marks 1 (l17.length) then 1 +
 (l17.length : Int) else -1) → (n26 < 0 → ∃ (m27 : List (Value × List Int)), ∃ (m28 : List (Value × List Int)), cat m13 (cat (vls (markE 1 m12)) m14) = cat m27 m28 ∧ false = true) ∧ (¬n26 < 0 → (n26 ≠ n18 → ∃ (m29 : List (Value × List Int)),
 ∃ (m30 : List (Value × List Int)), cat m13 (cat (vls (markE 1 m12)) m14) = cat m29 m30 ∧ false = true) ∧ (¬n26 ≠ n18 → ∃ (m31 : List (Value × List Int)), ∃ (m32 : List (Value × List Int)), cat m13 (cat (vls (markE 1 m12)) m14) = cat m31 m32
 ∧ true = true))) ∧ (false = decide (l25 = l5) → ∃ (m33 : List (Value × List Int)), ∃ (m34 : List (Value × List Int)), cat m13 (cat (vls (markE 1 m12)) m14) = cat m33 m34 ∧ false = true)) ∧ (false = entOk l24 ∧ l25 = Option.getD (archD l24)
 [] → ((l25.length : Int) ≤ 1099511627776 ∧ (l5.length : Int) ≤ 1099511627776) ∧ (true = decide (l25 = l5) → ∃ (m35 : List (Value × List Int)), ∃ (m36 : List (Value × List Int)), cat m13 (cat (vls (markE 1 m12)) m14) = cat m35 m36 ∧ false =
 true) ∧ (false = decide (l25 = l5) → ∃ (m37 : List (Value × List Int)), ∃ (m38 : List (Value × List Int)), cat m13 (cat (vls (markE 1 m12)) m14) = cat m37 m38 ∧ false = true))))) ∧ (false = decide (l9 = l5) → ∃ (m39 : List (Value × List
 Int)), ∃ (m40 : List (Value × List Int)), cat m13 (cat (vls (markE 1 m12)) m14) = cat m39 m40 ∧ false = true))) ∧ (false = decide (nls m11 = l10) → ∃ (m41 : List (Value × List Int)), ∃ (m42 : List (Value × List Int)), l7 = cat m41 m42 ∧
 false = true)) ∧ (false = decide (l9 = l5) → ∃ (m43 : List (Value × List Int)), ∃ (m44 : List (Value × List Int)), l7 = cat m43 m44 ∧ false = true)) ∧ (false = entOk (nls m8) ∧ l9 = Option.getD (archD (nls m8)) [] → ((l9.length : Int) ≤
 1099511627776 ∧ (l5.length : Int) ≤ 1099511627776) ∧ (true = decide (l9 = l5) → ∃ (m45 : List (Value × List Int)), ∃ (m46 : List (Value × List Int)), l7 = cat m45 m46 ∧ false = true) ∧ (false = decide (l9 = l5) → ∃ (m47 : List (Value × List
 Int)), ∃ (m48 : List (Value × List Int)), l7 = cat m47 m48 ∧ false = true))) ∧ (false = entOk l4 ∧ l5 = Option.getD (archD l4) [] → szE l0 ≤ 2000000 ∧ ∀ (l49 : List (Int × Value)) (l50 : List (Value × List Int)), (∃ (e : List (Int × Value ×
 List Int)), l49 = nvs e ∧ l50 = vls e ∧ nls e = l0) → ∃ (m51 : List (Int × Value × List Int)), l49 = nvs m51 ∧ (∀ (p : Value × List Int), p ∈ vls m51 → p ∈ l50) ∧ szE (nls m51) ≤ 2000000 ∧ ∀ (l52 : List Int), (true = entOk (nls m51) ∧ l52 =
 Option.getD (archD (nls m51)) [] → ((l52.length : Int) ≤ 1099511627776 ∧ (l5.length : Int) ≤ 1099511627776) ∧ (true = decide (l52 = l5) → ∃ (m53 : List (Value × List Int)), ∃ (m54 : List (Value × List Int)), l50 = cat m53 m54 ∧ false = true)
 ∧ (false = decide (l52 = l5) → ∃ (m55 : List (Value × List Int)), ∃ (m56 : List (Value × List Int)), l50 = cat m55 m56 ∧ false = true)) ∧ (false = entOk (nls m51) ∧ l52 = Option.getD (archD (nls m51)) [] → ((l52.length : Int) ≤ 1099511627776
 ∧ (l5.length : Int) ≤ 1099511627776) ∧ (true = decide (l52 = l5) → szE l0 ≤ 2000000 ∧ ∀ (l57 : List (Int × List Int)), l57 = l0 → ∃ (m58 : List (Int × Value × List Int)), l49 = nvs m58 ∧ (∀ (p : Value × List Int), p ∈ vls m58 → p ∈ l50) ∧
 (szE (nls m58) ≤ 2000000 ∧ szE l57 ≤ 2000000) ∧ (true = decide (nls m58 = l57) → ∃ (m59 : List (Int × Value × List Int)), ∃ (m60 : List (Value × List Int)), ∃ (m61 : List (Value × List Int)), l49 = nvs m59 ∧ l50 = cat m60 (cat (vls m59) m61)
 ∧ (0 : Int) ≤ 1 ∧ endE 1 m59 ≤ 1000000000 ∧ (endE 1 m59 < 0 → ∃ (m62 : List (Value × List Int)), ∃ (m63 : List (Value × List Int)), cat m60 (cat (vls (markE 1 m59)) m61) = cat m62 m63 ∧ false = true) ∧ (¬endE 1 m59 < 0 → ((l52.length : Int)
 ≤ 1099511627776 ∧ (l5.length : Int) ≤ 1099511627776) ∧ (true = decide (l52 = l5) → ((l52.length : Int) ≤ 1099511627776 ∧ (0 : Int) ≤ 1 ∧ (1 : Int) ≤ 1000000000000000) ∧ ∀ (l64 : List Int) (n65 : Int), n65 = 1 + (l52.length : Int) ∧ l64 =
 marks 1 (l52.length) → ((l64.length : Int) ≤ 1099511627776 ∧ (0 : Int) ≤ 1 ∧ (1 : Int) ≤ 1000000000000000) ∧ ∀ (n66 : Int), (n66 = if l64 = marks 1 (l64.length) then 1 + (l64.length : Int) else -1) → (n66 < 0 → ∃ (m67 : List (Value × List
 Int)), ∃ (m68 : List (Value × List Int)), cat m60 (cat (vls (markE 1 m59)) m61) = cat m67 m68 ∧ false = true) ∧ (¬n66 < 0 → (n66 ≠ n65 → ∃ (m69 : List (Value × List Int)), ∃ (m70 : List (Value × List Int)), cat m60 (cat (vls (markE 1 m59))
 m61) = cat m69 m70 ∧ false = true) ∧ (¬n66 ≠ n65 → szE l0 ≤ 2000000 ∧ ∀ (l71 : List (Int × List Int)), l71 = l0 → szE l71 ≤ 2000000 ∧ ∀ (l72 : List Int), (true = entOk l71 ∧ l72 = Option.getD (archD l71) [] → ((l72.length : Int) ≤
 1099511627776 ∧ (l5.length : Int) ≤ 1099511627776) ∧ (true = decide (l72 = l5) → ∃ (m73 : List (Value × List Int)), ∃ (m74 : List (Value × List Int)), cat m60 (cat (vls (markE 1 m59)) m61) = cat m73 m74 ∧ false = true) ∧ (false = decide (l72
 = l5) → ∃ (m75 : List (Value × List Int)), ∃ (m76 : List (Value × List Int)), cat m60 (cat (vls (markE 1 m59)) m61) = cat m75 m76 ∧ false = true)) ∧ (false = entOk l71 ∧ l72 = Option.getD (archD l71) [] → ((l72.length : Int) ≤ 1099511627776
 ∧ (l5.length : Int) ≤ 1099511627776) ∧ (true = decide (l72 = l5) → ((l64.length : Int) ≤ 1099511627776 ∧ (0 : Int) ≤ 1 ∧ (1 : Int) ≤ 1000000000000000) ∧ ∀ (n77 : Int), (n77 = if l64 = marks 1 (l64.length) then 1 + (l64.length : Int) else -1)
 → (n77 < 0 → ∃ (m78 : List (Value × List Int)), ∃ (m79 : List (Value × List Int)), cat m60 (cat (vls (markE 1 m59)) m61) = cat m78 m79 ∧ false = true) ∧ (¬n77 < 0 → (n77 ≠ n65 → ∃ (m80 : List (Value × List Int)), ∃ (m81 : List (Value × List
 Int)), cat m60 (cat (vls (markE 1 m59)) m61) = cat m80 m81 ∧ false = true) ∧ (¬n77 ≠ n65 → ∃ (m82 : List (Value × List Int)), ∃ (m83 : List (Value × List Int)), cat m60 (cat (vls (markE 1 m59)) m61) = cat m82 m83 ∧ true = true))) ∧ (false =
 decide (l72 = l5) → ∃ (m84 : List (Value × List Int)), ∃ (m85 : List (Value × List Int)), cat m60 (cat (vls (markE 1 m59)) m61) = cat m84 m85 ∧ false = true))))) ∧ (false = decide (l52 = l5) → ∃ (m86 : List (Value × List Int)), ∃ (m87 : List
 (Value × List Int)), cat m60 (cat (vls (markE 1 m59)) m61) = cat m86 m87 ∧ false = true))) ∧ (false = decide (nls m58 = l57) → ∃ (m88 : List (Value × List Int)), ∃ (m89 : List (Value × List Int)), l50 = cat m88 m89 ∧ false = true)) ∧ (false
 = decide (l52 = l5) → ∃ (m90 : List (Value × List Int)), ∃ (m91 : List (Value × List Int)), l50 = cat m90 m91 ∧ false = true))))
theorem vb_l_FnExactArchivePack : VB_l_FnExactArchivePack := by
  unfold VB_l_FnExactArchivePack
  rintro l ⟨hz, hE⟩
  have out : ∀ {h : HH} {p : Prop}, p → ∃ m m' : List (Value × List Int), h = cat m m' ∧ p := fun hp => ⟨[], _, rfl, hp⟩
  refine ⟨⟨⟨hz, hE⟩, by omega, by omega⟩, ?_⟩
  rintro n hn
  refine ⟨fun _ => out rfl, fun hneg => ?_⟩
  have hs : szE l ≤ 1048576 := by
    by_cases h : 1048576 - szE l < 0
    · rw [if_pos h] at hn; omega
    · omega
  have hs0 := szE_nonneg l
  refine ⟨by omega, fun l4 e4 => ?_⟩
  have e4 := e4.symm; subst e4
  refine ⟨by omega, fun p => ⟨?_, ?_⟩⟩
  · rintro ⟨hok, hp⟩
    refine ⟨by omega, ?_⟩
    rintro _ _ ⟨e, rfl, rfl, he⟩
    have hsn : szE (nls e) = szE l := by rw [he]
    have hen := endE_eq 1 e
    have hpl : (p.length : Int) ≤ 1099511627776 := by
      rw [hp, show archD l = some (packE l) from if_pos hok.symm]
      have := packE_len hok.symm
      simp only [Option.getD_some]; omega
    refine ⟨e, rfl, fun _ h => h, by omega, fun q => ⟨?_, ?_⟩⟩
    · rintro ⟨_, hq⟩
      have hq : q = p := by rw [hq, hp, he]
      subst hq
      refine ⟨⟨hpl, hpl⟩, fun _ => ⟨by omega, fun l10 e10 => ?_⟩, fun h => absurd h (by simp)⟩
      have e10 := e10.symm; subst e10
      refine ⟨e, rfl, fun _ h => h, ⟨by omega, by omega⟩, fun _ => ⟨e, [], [], rfl, by rw [cat_is, cat_is]; simp, by omega, by omega, fun h => by omega, fun _ => ⟨⟨hpl, hpl⟩, fun _ => ⟨⟨hpl, by omega, by omega⟩, ?_⟩, fun h => absurd h (by simp)⟩⟩, fun h => absurd h (by rw [he]; simp)⟩
      rintro _ _ ⟨rfl, rfl⟩
      refine ⟨⟨by rw [marks_len]; omega, by omega, by omega⟩, fun n19 h19 => ?_⟩
      rw [if_pos (by rw [marks_len]), marks_len] at h19
      refine ⟨fun h => by omega, fun _ => ⟨fun h => absurd h19 h, fun _ => ⟨by omega, fun l24 e24 => ?_⟩⟩⟩
      have e24 := e24.symm; subst e24
      refine ⟨by omega, fun q3 => ⟨?_, ?_⟩⟩
      · rintro ⟨_, hq3⟩
        have hq3 : q3 = q := by rw [hq3, hp]
        subst hq3
        refine ⟨⟨hpl, hpl⟩, fun _ => ⟨⟨by rw [marks_len]; omega, by omega, by omega⟩, fun n26 h26 => ?_⟩, fun h => absurd h (by simp)⟩
        rw [if_pos (by rw [marks_len]), marks_len] at h26
        exact ⟨fun h => by omega, fun _ => ⟨fun h => absurd h26 h, fun _ => out rfl⟩⟩
      · rintro ⟨h, _⟩
        rw [← hok] at h; cases h
    · rintro ⟨h, _⟩
      rw [he, ← hok] at h; cases h
  · rintro ⟨hok, hp⟩
    refine ⟨by omega, ?_⟩
    rintro _ _ ⟨e, rfl, rfl, he⟩
    have hsn : szE (nls e) = szE l := by rw [he]
    have hen := endE_eq 1 e
    have hpl : (p.length : Int) ≤ 1099511627776 := by
      rw [hp, show archD l = none from if_neg (by rw [← hok]; simp)]
      simp
    refine ⟨e, rfl, fun _ h => h, by omega, fun q => ⟨?_, ?_⟩⟩
    · rintro ⟨h, _⟩
      rw [he, ← hok] at h; cases h
    · rintro ⟨_, hq⟩
      have hq : q = p := by rw [hq, hp, he]
      subst hq
      refine ⟨⟨hpl, hpl⟩, fun _ => ⟨by omega, fun l10 e10 => ?_⟩, fun h => absurd h (by simp)⟩
      have e10 := e10.symm; subst e10
      refine ⟨e, rfl, fun _ h => h, ⟨by omega, by omega⟩, fun _ => ⟨e, [], [], rfl, by rw [cat_is, cat_is]; simp, by omega, by omega, fun h => by omega, fun _ => ⟨⟨hpl, hpl⟩, fun _ => ⟨⟨hpl, by omega, by omega⟩, ?_⟩, fun h => absurd h (by simp)⟩⟩, fun h => absurd h (by rw [he]; simp)⟩
      rintro _ _ ⟨rfl, rfl⟩
      refine ⟨⟨by rw [marks_len]; omega, by omega, by omega⟩, fun n19 h19 => ?_⟩
      rw [if_pos (by rw [marks_len]), marks_len] at h19
      refine ⟨fun h => by omega, fun _ => ⟨fun h => absurd h19 h, fun _ => ⟨by omega, fun l24 e24 => ?_⟩⟩⟩
      have e24 := e24.symm; subst e24
      refine ⟨by omega, fun q3 => ⟨?_, ?_⟩⟩
      · rintro ⟨h, _⟩
        rw [← hok] at h; cases h
      · rintro ⟨_, hq3⟩
        have hq3 : q3 = q := by rw [hq3, hp]
        subst hq3
        refine ⟨⟨hpl, hpl⟩, fun _ => ⟨⟨by rw [marks_len]; omega, by omega, by omega⟩, fun n26 h26 => ?_⟩, fun h => absurd h (by simp)⟩
        rw [if_pos (by rw [marks_len]), marks_len] at h26
        exact ⟨fun h => by omega, fun _ => ⟨fun h => absurd h26 h, fun _ => out rfl⟩⟩
theorem mf_l_FnExactArchivePack : MeetsF Try.prog 3 3 F_l_FnExactArchivePack :=
  meetsF tokB Try.func3 (by kernel_rfl) (l := [(6, S_l_szEntryS), (7, S_s_ArchivePack), (8, S_l_toEntryS), (9, S_i_ArchivePack), (10, S_l_eqIntS), (11, S_l_eqEntryS), (13, S_l_markIntS), (14, S_l_heldIntS)]) ⟨m_l_szEntryS, m_s_ArchivePack, m_l_toEntryS, m_i_ArchivePack, m_l_eqIntS, m_l_eqEntryS, m_l_markIntS, m_l_heldIntS, trivial⟩ (sp := [(26, .call 8 (famBF F_l_toEntryS)), (29, .call 9 (lendBF S_i_ArchivePack)), (44, .call 11 (lendBF S_l_eqEntryS)), (48, .call 12 (markBF 53))]) ⟨fam_ok mf_l_toEntryS, lend_ok m_i_ArchivePack, lend_ok m_l_eqEntryS, mark_ok mc_l_markEntryS, trivial⟩ (ann := []) vb_l_FnExactArchivePack (by kernel_rfl)
end Go.Proofs.Ytkkgpcbkkahieaa
