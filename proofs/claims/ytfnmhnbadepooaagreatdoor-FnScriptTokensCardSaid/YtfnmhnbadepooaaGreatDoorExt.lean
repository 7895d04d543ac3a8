/-
  Contracts of functions of the library; laws whose rows list variables.
-/
import Derived.LaidMore
import Derived.Lay
import Derived.LaidSub
import Derived.MakeChecks
import Derived.LaidLaws
import Derived.Stop.Joined
import Derived.Shelf.Strconv.Itoa3
import Derived.Shelf.Strings.Split
import Derived.Shelf.Strings.Cut
import Derived.Lib.IndexBytes
import Derived.Test.YtfnmhnbadepooaaGreatDoorAx2
set_option linter.unusedVariables false
set_option linter.unusedSimpArgs false
set_option linter.unusedSectionVars false

/-
  AxExt: contracts of the library's functions that are called: strconv.Itoa; strings.Split and strings.Cut at one byte.
-/
namespace Go.Ax
open Go.Proofs Go.Shelf Go.RowKit

/-- The world has grown and is else as it was. -/
structure Grew (w w' : World) : Prop where
  os : w'.os = w.os
  tape : w'.tape = w.tape
  output : w'.output = w.output
  size : w.heap.size ≤ w'.heap.size
  block : ∀ b, b < w.heap.size → w'.heap[b]? = w.heap[b]?

theorem Grew.drewN (w : World) (n : Nat) : Grew w (w.drewN n) := ⟨rfl, rfl, rfl, Nat.le_refl _, fun _ _ => rfl⟩

theorem Grew.grow (w : World) (n : Nat) (os : Array Go.Obj) : Grew w (Sort.grow (w.drewN n) os) :=
  ⟨rfl, rfl, rfl, by show w.heap.size ≤ (w.heap ++ os).size; rw [Array.size_append]; omega, fun b hb => by show (w.heap ++ os)[b]? = _; exact Array.getElem?_append_left hb⟩

theorem Grew.alloc (w : World) (o : Go.Obj) : Grew w (w.alloc o) :=
  ⟨rfl, rfl, rfl, by show w.heap.size ≤ (w.heap.push o).size; rw [Array.size_push]; omega, fun b hb => by show (w.heap.push o)[b]? = _; rw [Array.getElem?_push, if_neg (by omega)]⟩

/-- A function of the library meets a contract. -/
theorem Meets.ext {P : Program} {f : FuncId} {F : FSpec} (hok : F.ok = true) (there : ∃ fn c, P.funcs[f]? = some fn ∧ fn.body = some c ∧ (fn.name == "runtime.NumGoroutine") = false)
    (hps : ∀ w vs T, AKs.ps w F.args vs T = []) (hout : outKs F.args = []) (hio : ∀ vs, ioVals F.args vs = [])
    (call : ∀ (w : World) (Sb : Nat → Prop) (ds : List AV) (args : List Value), AKs.Is F.args ds → F.pre ds → AKs.Got Sb w 0 F.args ds args → Gl P w Sb →
      Calls P f args.toArray w fun e w' => ∃ (rs : List AV) (outs : List Value), e = .returned (packV outs) ∧ AKs.Is F.outs rs ∧ F.post ds rs ∧ AKs.Got Sb w' 0 F.outs rs outs ∧
        Apart (AKs.ps w' F.outs outs 0) ∧ (∀ p ∈ AKs.ps w' F.outs outs 0, ∀ g, blk p.2 = some g → w.heap.size ≤ g) ∧ Grew w w') : Meets P f F where
  ok := hok
  there := there
  call := by
    intro w Sb ds args hIs hpre hGot hAp hSbio hSblt hgl
    refine (call w Sb ds args hIs hpre hGot hgl).mono ?_
    rintro e w' ⟨rs, outs, he, h1, h2, h3, h4, h5, h6⟩
    have hw0 : AKs.width (outKs F.args) = 0 := by rw [hout]; rfl
    refine ⟨[], rs, outs, Sb, he, by rw [hout]; trivial, h1, h2, by rw [hout, hio]; trivial, h3, ?_, ?_, ?_, fun _ h => h, fun _ h => .inl h, h6.os, h6.tape, h6.output, h6.size, fun b hb _ => h6.block b hb⟩
    all_goals
      rw [hw0, hout, hio]
      simp only [AKs.ps, List.nil_append]
    · exact h4
    · intro p hp g hg hS
      have := h5 p hp g hg
      have := hSblt g hS
      omega
    · intro p hp g hg
      exact .inl (h5 p hp g hg)

variable {P : Program} {ρ : Ren}

/-! ### strconv.Itoa -/

theorem itoa_meets (L : LaysM.n171 P ρ) (hname : ((Body.n171 ρ).name == "runtime.NumGoroutine") = false) (hbody : ∃ c, (Body.n171 ρ).body = some c) {g : Nat} (hg : P.globalNamed "internal/strconv.uint64pow10" = some g)
    {F : FSpec} (hk : F.ok = true) (ha : F.args = [.sc .int]) (ho : F.outs = [.sc .str]) (hpre : ∀ n, F.pre [.sc (.int .i64 n)] → -9223372036854775808 ≤ n ∧ n ≤ 9223372036854775807)
    (hpost : ∀ n, F.pre [.sc (.int .i64 n)] → F.post [.sc (.int .i64 n)] [.sc (.str (Lib.itoa n))]) : Meets P (ρ.f 171) F := by
  obtain ⟨c, hc⟩ := hbody
  obtain ⟨fa, fo, fpre, fpost, fk⟩ := F
  simp only at ha ho hpre hpost
  subst ha ho
  refine Meets.ext hk ⟨_, c, L.f171, hc, hname⟩ (fun w vs T => ?_) rfl (fun vs => ?_) ?_
  · rcases vs with _ | ⟨v, _ | ⟨v', vs⟩⟩ <;> rfl
  · rcases vs with _ | ⟨v, _ | ⟨v', vs⟩⟩ <;> rfl
  · intro w Sb ds args hIs hp hGot hgl
    match ds, args, hIs, hGot with
    | [.sc (.int .i64 n)], [v], hIs, hGot =>
      have hv : v = .int .i64 n := hGot.1.2
      subst hv
      obtain ⟨n0, n1⟩ := hpre n hp
      refine (Any.strconv_Itoa L n n0 n1 w (hgl g hg).2).mono ?_
      rintro e w' ⟨rfl, k, os, rfl⟩
      exact ⟨[.sc (.str (Lib.itoa n))], [.string ⟨(Lib.itoa n).toArray⟩], rfl, ⟨trivial, trivial⟩, hpost n hp, ⟨⟨trivial, ⟨_, rfl, by simp⟩⟩, trivial⟩, by simp [AKs.ps, AK.ps, BK.ps, Apart], by simp [AKs.ps, AK.ps, BK.ps], Grew.grow w k os⟩

/-! ### strings.Split, strings.Cut -/

theorem index_one_b (s : ByteArray) (c : UInt8) : Lib.indexB s ⟨#[c]⟩ = Lib.indexByte s.data.toList c := Lib.index_one s.data.toList c

theorem split_one (L : Lays.n146 P ρ) (hi9 : (P.info? (ρ.t 9)).map (fun i => (i.zero, i.size, i.bytes)) = some (some (.string ByteArray.empty), 1, 16)) (s : ByteArray) (c : UInt8) (w : World) (hs : s.size < 4294967281) :
    Calls P (ρ.f 146) #[.string s, .string ⟨#[c]⟩] w fun e w' =>
      e = .returned (.slice (some ⟨w.heap.size, 0, none⟩) (Lib.countB s ⟨#[c]⟩ + 1) (Lib.countB s ⟨#[c]⟩ + 1)) ∧ w' = w.alloc (.cells ((Lib.splitB ⟨#[c]⟩ 0 (Lib.countB s ⟨#[c]⟩) s).map Value.string).toArray (ρ.t 9)) := by
  have h1 : 1 ≤ (⟨#[c]⟩ : ByteArray).size := Nat.le_refl 1
  have hle := Lib.countB_le ⟨#[c]⟩ h1 s.size s (Nat.le_refl _)
  have hlen := Lib.splitB_all ⟨#[c]⟩ h1 0 _ s rfl
  have cs := Any.strings_genSplit_core { L with } hi9 s ⟨#[c]⟩ 0 (-1) (Lib.countB s ⟨#[c]⟩ + 1) w hs h1 (Nat.zero_le _)
    (fun x cc hx => (Any.strings_Index_one { L with } x c _).mono fun e w' ⟨he, hw⟩ => ⟨by rw [he, index_one_b], hw⟩)
    ((Any.strings_Count_one { L with } s c w).mono fun e w' ⟨he, hw⟩ => ⟨by
      rw [he]
      show _ = Ending.returned (Value.int .i64 ((Lib.count s.data.toList [c] : Nat) : Int))
      rw [Lib.count_one]
      rfl, hw⟩) (by decide) (by decide) (by rw [if_pos (by decide)]; omega)
  rw [Nat.add_sub_cancel, hlen] at cs
  have e2 : Lib.cellsOf (Lib.splitB ⟨#[c]⟩ 0 (Lib.countB s ⟨#[c]⟩) s) (Lib.countB s ⟨#[c]⟩ + 1) = ((Lib.splitB ⟨#[c]⟩ 0 (Lib.countB s ⟨#[c]⟩) s).map Value.string).toArray := by rw [← hlen]; exact Lib.cellsOf_full _
  rw [e2] at cs
  have t3 := L.t3; have t9 := L.t9; have t31 := L.t31
  have a3 := L.a3; have a9 := L.a9; have a31 := L.a31
  have z3 := L.z3; have v3 := L.v3; have z9 := L.z9; have v9 := L.v9; have z31 := L.z31; have v31 := L.v31
  have e221 : ∀ args w, (callFunc (ρ.f 221) args).run P w = .ok (.enter (ρ.f 221) args) w := enters_of L.f221 (by kernel_rfl) rfl
  go_enter L.f146, Body.n146_ntmps ρ
  go_wp2_with (go_at_fn (ρ.f 221); refine cs.mono ?_; rintro e w' ⟨rfl, hw⟩; rw [hw])
  go_ret
  exact ⟨rfl, rfl⟩

theorem one_byte_of {s : ByteArray} {c : UInt8} (h : s.data.toList = [c]) : s = ⟨#[c]⟩ := by
  obtain ⟨a⟩ := s
  have : a = #[c] := by
    apply Array.ext'
    simpa using h
  rw [this]

theorem split_meets (L : Lays.n146 P ρ) (hname : ((Body.n146 ρ).name == "runtime.NumGoroutine") = false) (hbody : ∃ c, (Body.n146 ρ).body = some c)
    (hi9 : (P.info? (ρ.t 9)).map (fun i => (i.zero, i.size, i.bytes)) = some (some (.string ByteArray.empty), 1, 16))
    {F : FSpec} (hk : F.ok = true) (ha : F.args = [.sc .str, .sc .str]) (ho : F.outs = [.sc (.own (ρ.t 9) .str)]) (hpre : ∀ s sep, F.pre [.sc (.str s), .sc (.str sep)] → (∃ c, sep = [c]) ∧ s.length < 4294967281)
    (hpost : ∀ s c, F.pre [.sc (.str s), .sc (.str [c])] → F.post [.sc (.str s), .sc (.str [c])] [.sc (.sl .str (Lib.splitK [c] 0 (Lib.count s [c]) s))]) : Meets P (ρ.f 146) F := by
  obtain ⟨c, hc⟩ := hbody
  obtain ⟨fa, fo, fpre, fpost, fk⟩ := F
  simp only at ha ho hpre hpost
  subst ha ho
  refine Meets.ext hk ⟨_, c, L.f146, hc, hname⟩ (fun w vs T => ?_) rfl (fun vs => ?_) ?_
  · rcases vs with _ | ⟨v, _ | ⟨v', _ | ⟨v'', vs⟩⟩⟩ <;> rfl
  · rcases vs with _ | ⟨v, _ | ⟨v', _ | ⟨v'', vs⟩⟩⟩ <;> rfl
  · intro w Sb ds args hIs hp hGot hgl
    match ds, args, hIs, hGot with
    | [.sc (.str s), .sc (.str sep)], [v, u], hIs, hGot =>
      obtain ⟨S, rfl, hS⟩ := hGot.1.2
      obtain ⟨U, rfl, hU⟩ := hGot.2.1.2
      obtain ⟨⟨b, rfl⟩, hlt⟩ := hpre s sep hp
      obtain rfl := one_byte_of hU
      have hsz : S.size < 4294967281 := by rw [Lib.size_eq, hS]; exact hlt
      refine (split_one L hi9 S b w hsz).mono ?_
      rintro e w' ⟨rfl, rfl⟩
      have hdata : (Lib.splitB ⟨#[b]⟩ 0 (Lib.countB S ⟨#[b]⟩) S).map (·.data.toList) = Lib.splitK [b] 0 (Lib.count s [b]) s := by
        rw [Lib.splitB_data, hS]
        show Lib.splitK [b] 0 (Lib.count S.data.toList [b]) s = _
        rw [hS]
      have hlen := Lib.splitB_all ⟨#[b]⟩ (Nat.le_refl 1) 0 _ S rfl
      have hcle := Lib.countB_le ⟨#[b]⟩ (Nat.le_refl 1) S.size S (Nat.le_refl _)
      generalize Lib.splitB ⟨#[b]⟩ 0 (Lib.countB S ⟨#[b]⟩) S = ps at *
      rw [← hlen]
      refine ⟨[.sc (.sl .str (Lib.splitK [b] 0 (Lib.count s [b]) s))], [_], rfl, ⟨rfl, trivial⟩, hpost s b hp, ⟨⟨rfl, ps.map Value.string, ?_, ?_⟩, trivial⟩, by simp [AKs.ps, AK.ps, BK.ps, Apart], ?_, Grew.alloc w _⟩
      · rw [← hdata]
        have hnew : (w.alloc (.cells (ps.map Value.string).toArray (ρ.t 9))).heap[w.heap.size]? = some (.cells (ps.map Value.string).toArray (ρ.t 9)) := by
          show (w.heap.push _)[w.heap.size]? = _
          rw [Array.getElem?_push, if_pos rfl]
        have e1 : (ps.map (·.data.toList)).length = ps.length := List.length_map _
        have e2 : (ps.map Value.string).length = ps.length := List.length_map _
        refine ⟨?_, .inr ⟨w.heap.size, ps.length, (ps.map Value.string).toArray, ?_, Nat.zero_le _, hnew, ?_, ?_, ?_, ?_⟩⟩
        · rw [e2, e1]; show _ = ps.length * 1; omega
        · rw [e1]
        · rw [e1]; exact Nat.le_refl _
        · unfold maxLen; omega
        · rw [List.size_toArray, e2]; show _ = ps.length * 1; omega
        · rw [e1]
          show List.take (ps.length * 1) _ = _
          rw [Nat.mul_one]
          exact List.take_of_length_le (by rw [e2]; exact Nat.le_refl _)
      · rw [← hdata]
        intro i x hx j u hu
        simp only [List.getElem?_map, Option.map_eq_some_iff] at hx
        obtain ⟨q, hq, rfl⟩ := hx
        cases j with
        | zero =>
          simp only [ET.cells, List.getElem?_cons_zero, Option.some.injEq] at hu
          subst hu
          exact ⟨.string q, by simp [ET.size, hq], q, rfl, rfl⟩
        | succ j => simp [ET.cells] at hu
      · intro p hp' g hg
        simp only [AKs.ps, AK.ps, BK.ps, List.append_nil, List.mem_singleton] at hp'
        subst hp'
        simp only [blk, Option.some.injEq] at hg
        omega

set_option maxHeartbeats 2000000 in
set_option maxRecDepth 100000 in
theorem lite_cut_one (L : Lays.n220 P ρ) (s : ByteArray) (c : UInt8) (w : World) (hs : s.size < 4294967281) :
    Calls P (ρ.f 220) #[.string s, .string ⟨#[c]⟩] w fun e w' => e = .returned (.tuple #[.string ⟨(Lib.cut s.data.toList [c]).1.toArray⟩, .string ⟨(Lib.cut s.data.toList [c]).2.1.toArray⟩, .bool (Lib.cut s.data.toList [c]).2.2]) ∧ ∃ n, w' = w.drewN n := by
  rcases Lib.indexB_cases s ⟨#[c]⟩ with hix | ⟨i, hix, hroom⟩
  · obtain ⟨e1, e2, e3⟩ := Lib.cutB_miss s ⟨#[c]⟩ hix
    change (⟨(Lib.cut s.data.toList [c]).1.toArray⟩ : ByteArray) = s at e1
    change (⟨(Lib.cut s.data.toList [c]).2.1.toArray⟩ : ByteArray) = ByteArray.empty at e2
    change (Lib.cut s.data.toList [c]).2.2 = false at e3
    rw [index_one_b] at hix
    rw [e1, e2, e3]
    have t3 := L.t3; have t4 := L.t4; have t9 := L.t9
    have a3 : ∀ w, (isAgg (ρ.t 3)).run P w = .ok false w := run_isAgg_plain L.t3 rfl; have a4 : ∀ w, (isAgg (ρ.t 4)).run P w = .ok false w := run_isAgg_plain L.t4 rfl; have a9 : ∀ w, (isAgg (ρ.t 9)).run P w = .ok false w := run_isAgg_plain L.t9 rfl
    have e219 : ∀ args w, (callFunc (ρ.f 219) args).run P w = .ok (.enter (ρ.f 219) args) w := enters_of L.f219 (by kernel_rfl) rfl
    have mixed := L.mixed; have z3 := L.z3; have v3 := L.v3; have z4 := L.z4; have v4 := L.v4; have z9 := L.z9; have v9 := L.v9
    go_enter L.f220, Body.n220_ntmps ρ
    go_wp2_with (go_at_fn (ρ.f 219); refine (Any.stringslite_Index_one { L with } _ _ _).mono ?_; rintro e w' ⟨rfl, rfl⟩; rw [hix])
    go_ret3
    exact ⟨rfl, 0, rfl⟩
  · obtain ⟨e1, e2, e3⟩ := Lib.cutB_hit s ⟨#[c]⟩ i hix
    change (⟨(Lib.cut s.data.toList [c]).1.toArray⟩ : ByteArray) = s.extract 0 i at e1
    change (⟨(Lib.cut s.data.toList [c]).2.1.toArray⟩ : ByteArray) = s.extract (i + 1) s.size at e2
    have hroom : i + 1 ≤ s.size := hroom
    change (Lib.cut s.data.toList [c]).2.2 = true at e3
    rw [index_one_b] at hix
    rw [e1, e2, e3]
    have c1 : (0 : Int) ≤ ↑i := by omega
    have c2 : (↑i : Int) ≤ ↑s.size := by omega
    have c3 : (0 : Int) ≤ ↑i + 1 := by omega
    have c4 : (↑i + 1 : Int) ≤ ↑s.size := by omega
    have t3 := L.t3; have t4 := L.t4; have t9 := L.t9
    have a3 : ∀ w, (isAgg (ρ.t 3)).run P w = .ok false w := run_isAgg_plain L.t3 rfl; have a4 : ∀ w, (isAgg (ρ.t 4)).run P w = .ok false w := run_isAgg_plain L.t4 rfl; have a9 : ∀ w, (isAgg (ρ.t 9)).run P w = .ok false w := run_isAgg_plain L.t9 rfl
    have e219 : ∀ args w, (callFunc (ρ.f 219) args).run P w = .ok (.enter (ρ.f 219) args) w := enters_of L.f219 (by kernel_rfl) rfl
    have mixed := L.mixed; have z3 := L.z3; have v3 := L.v3; have z4 := L.z4; have v4 := L.v4; have z9 := L.z9; have v9 := L.v9
    go_enter L.f220, Body.n220_ntmps ρ
    go_wp2_with (go_at_fn (ρ.f 219); refine (Any.stringslite_Index_one { L with } _ _ _).mono ?_; rintro e w' ⟨rfl, rfl⟩; rw [hix])
    go_region_o
    go_wp2
    go_ret3
    exact ⟨rfl, 1, rfl⟩

set_option maxHeartbeats 1000000 in
theorem cut_one (L : Lays.n145 P ρ) (s : ByteArray) (c : UInt8) (w : World) (hs : s.size < 4294967281) :
    Calls P (ρ.f 145) #[.string s, .string ⟨#[c]⟩] w fun e w' => e = .returned (.tuple #[.string ⟨(Lib.cut s.data.toList [c]).1.toArray⟩, .string ⟨(Lib.cut s.data.toList [c]).2.1.toArray⟩, .bool (Lib.cut s.data.toList [c]).2.2]) ∧ ∃ n, w' = w.drewN n := by
  have t4 := L.t4; have t9 := L.t9; have t59 := L.t59
  have a4 : ∀ w, (isAgg (ρ.t 4)).run P w = .ok false w := run_isAgg_plain L.t4 rfl; have a9 : ∀ w, (isAgg (ρ.t 9)).run P w = .ok false w := run_isAgg_plain L.t9 rfl; have a59 : ∀ w, (isAgg (ρ.t 59)).run P w = .ok false w := run_isAgg_plain L.t59 rfl
  have e220 : ∀ args w, (callFunc (ρ.f 220) args).run P w = .ok (.enter (ρ.f 220) args) w := enters_of L.f220 (by kernel_rfl) rfl
  have mixed := L.mixed; have z4 := L.z4; have v4 := L.v4; have z9 := L.z9; have v9 := L.v9; have z59 := L.z59; have v59 := L.v59
  go_enter L.f145, Body.n145_ntmps ρ
  go_wp2_with (go_at_fn (ρ.f 220); refine (lite_cut_one { L with } _ _ _ hs).mono ?_; rintro e w' ⟨rfl, n, rfl⟩)
  go_ret3
  exact ⟨rfl, n, rfl⟩

theorem cut_meets (L : Lays.n145 P ρ) (hname : ((Body.n145 ρ).name == "runtime.NumGoroutine") = false) (hbody : ∃ c, (Body.n145 ρ).body = some c)
    {F : FSpec} (hk : F.ok = true) (ha : F.args = [.sc .str, .sc .str]) (ho : F.outs = [.sc .str, .sc .str, .sc .bool]) (hpre : ∀ s sep, F.pre [.sc (.str s), .sc (.str sep)] → (∃ c, sep = [c]) ∧ s.length < 4294967281)
    (hpost : ∀ s c, F.pre [.sc (.str s), .sc (.str [c])] → F.post [.sc (.str s), .sc (.str [c])] [.sc (.str (Lib.cut s [c]).1), .sc (.str (Lib.cut s [c]).2.1), .sc (.bool (Lib.cut s [c]).2.2)]) : Meets P (ρ.f 145) F := by
  obtain ⟨c, hc⟩ := hbody
  obtain ⟨fa, fo, fpre, fpost, fk⟩ := F
  simp only at ha ho hpre hpost
  subst ha ho
  refine Meets.ext hk ⟨_, c, L.f145, hc, hname⟩ (fun w vs T => ?_) rfl (fun vs => ?_) ?_
  · rcases vs with _ | ⟨v, _ | ⟨v', _ | ⟨v'', vs⟩⟩⟩ <;> rfl
  · rcases vs with _ | ⟨v, _ | ⟨v', _ | ⟨v'', vs⟩⟩⟩ <;> rfl
  · intro w Sb ds args hIs hp hGot hgl
    match ds, args, hIs, hGot with
    | [.sc (.str s), .sc (.str sep)], [v, u], hIs, hGot =>
      obtain ⟨S, rfl, hS⟩ := hGot.1.2
      obtain ⟨U, rfl, hU⟩ := hGot.2.1.2
      obtain ⟨⟨b, rfl⟩, hlt⟩ := hpre s sep hp
      obtain rfl := one_byte_of hU
      have hsz : S.size < 4294967281 := by rw [Lib.size_eq, hS]; exact hlt
      refine (cut_one L S b w hsz).mono ?_
      rw [hS]
      rintro e w' ⟨rfl, n, rfl⟩
      exact ⟨[.sc (.str (Lib.cut s [b]).1), .sc (.str (Lib.cut s [b]).2.1), .sc (.bool (Lib.cut s [b]).2.2)], [.string ⟨(Lib.cut s [b]).1.toArray⟩, .string ⟨(Lib.cut s [b]).2.1.toArray⟩, .bool (Lib.cut s [b]).2.2], rfl, ⟨trivial, trivial, trivial, trivial⟩, hpost s b hp,
        ⟨⟨trivial, _, rfl, by simp⟩, ⟨trivial, _, rfl, by simp⟩, ⟨trivial, rfl⟩, trivial⟩, by simp [AKs.ps, AK.ps, BK.ps, Apart], by simp [AKs.ps, AK.ps, BK.ps], Grew.drewN w n⟩

/-! ### Contracts by a measure -/

/-- A function that calls itself: what holds at each bound of a measure holds. -/
theorem Meets.union {f : FuncId} {F : FSpec} {G : Nat → FSpec} (hk : F.ok = true) (hG : ∀ k, Meets P f (G k)) (ha : ∀ k, (G k).args = F.args) (ho : ∀ k, (G k).outs = F.outs)
    (hpre : ∀ ds, F.pre ds → ∃ k, (G k).pre ds) (hpost : ∀ k ds rs, (G k).post ds rs → F.post ds rs) : Meets P f F where
  ok := hk
  there := (hG 0).there
  call := by
    intro w Sb ds args hIs hp hGot hAp hSbio hSblt hgl
    obtain ⟨k, hk'⟩ := hpre ds hp
    have := (hG k).call w Sb ds args (by rw [ha]; exact hIs) hk' (by rw [ha]; exact hGot) (by rw [ha]; exact hAp) (by rw [ha]; exact hSbio) hSblt hgl
    rw [ha, ho] at this
    refine this.mono ?_
    rintro e w' ⟨os, rs, outs, S', q1, q2, q3, q4, q5⟩
    exact ⟨os, rs, outs, S', q1, q2, q3, hpost k ds _ q4, q5⟩

/-! ### Laws whose rows list variables -/

theorem Meets.never {f : FuncId} {F : FSpec} (hk : F.ok = true) (there : ∃ fn c, P.funcs[f]? = some fn ∧ fn.body = some c ∧ (fn.name == "runtime.NumGoroutine") = false) (h : ∀ ds, ¬ F.pre ds) : Meets P f F where
  ok := hk
  there := there
  call := fun w Sb ds args _ hp => absurd hp (h ds)

/-- The table of powers, out of the row's list. -/
theorem gl_of_laid {laid : List (String × DataW Unit)} (keep : String × DataW Unit → Bool) {zs : List Int} {g : Nat} {t e : TypeId} {n : Nat} (hf : laid.filter keep = [("internal/strconv.uint64pow10", Lib.tabData .u64 zs)]) (hz : zs = Lib.pow10Tab)
    (hg : P.globalNamed "internal/strconv.uint64pow10" = some g) (hty : (P.globals[g]?).map (·.type) = some t) (ht : P.underlying t = some (.array n e)) (he : P.underlying e = some (.int .u64)) (hce : P.cellsOf e = 1) (hct : P.cellsOf t = n)
    (W : World) (h : laidMetH P laid W) : Gl P W (Old W) := fun g' hg' => by
  have h2 := laidMetH.filter keep h
  rw [hf] at h2
  have h3 : laidMet P [("internal/strconv.uint64pow10", Lib.tabData .u64 zs)] W := h2
  have htab := Lib.tabIs_of_head (rest := []) hg hty ht he hce hct h3
  rw [hz] at htab
  refine ⟨?_, htab⟩
  have hv := htab
  unfold Lib.TabIs World.var? at hv
  rw [hg'] at hv
  simp only [Option.bind_some] at hv
  rcases Nat.lt_or_ge g' W.heap.size with hlt | hge
  · exact hlt
  · rw [Array.getElem?_eq_none hge] at hv; cases hv

open Go.ChangeShapes Go.WideShapes in
/-- A LAW's STEP, WHERE ITS ROW LISTS VARIABLES. -/
theorem law_lifted_laid {H : Type} {enc : TypeId × Value → H} {C : Checked} {K : FuncId} {fn : Func} {s : ChangeSpec} {F : FSpec} {conds : List PathCond} {apart fresh handsOn again : Bool} {laid : List (String × DataW Unit)} {os : Os} (own : ownKnob C.prog.godebug = none) (started : os.Started)
    (noInit : C.prog.inits.idxOf? K = none) (hfn : C.prog.funcs[K]? = some fn)
    (witness : ∃ (w : World) (tape : Tape) (i : Input), w.os = os ∧ (w.forCall tape i).Shaped C.prog ∧ i.vars = [] ∧ Input.okWide C.prog (w.forCall tape i) .any w.heap.size K i ∧
      ((s.pre enc C.prog fn conds apart (w.forCall tape i).memory i.args ∧ laidMetH C.prog laid (w.forCall tape i).memory) ∧ sizedMet enc C.prog fn (OpenSpec.ofChange s) apart (w.forCall tape i).memory i.args) ∧ ({} : Assume).holds C.prog (lone (Frame.enter C.prog K i.args .normal) [] (w.forCall tape i)))
    (hM : Meets C.prog K F) (hL : LawOf C.prog fn.params.toList F) (hl : laidOutB C.prog = true) (hp : ∀ t ∈ fn.params.toList, C.prog.readableRec t = true ∧ t < C.prog.types.size) (hvars : s.vars = [])
    (hspec : ∀ ds : List (DataW H), ds.length = fn.params.toList.length → s.fn H ds = { results := [.lit (.bool true)], args := ds }) {tb : TypeId} (hres : fn.resultTypes = #[tb]) (hbool : C.prog.underlying tb = some .bool)
    (hG : ∀ W, laidMetH C.prog laid W → Gl C.prog W (Old W)) :
    ReturnsInHanded {} C os K .any (fun w args => (s.pre enc C.prog fn conds apart w args ∧ laidMetH C.prog laid w) ∧ sizedMet enc C.prog fn (OpenSpec.ofChange s) apart w args) (s.post enc C.prog fn apart fresh handsOn again) := by
  refine returnsInHanded_of_change_and (C := C) (X := fun w _ => laidMetH C.prog laid w) (fun _ _ _ hh h => h.of_heap hh) own started noInit hfn witness ?_
  intro W base args ds gs before hval hW _ _ hX _
  have hW0 := hW
  obtain ⟨p, q, hA, _⟩ := hW
  refine (law_calls hM hL (base := base) (fun j t v ht hv => hval j t v (by simpa using ht) hv) hA (hG W hX)).mono fun e W' he => ?_
  exact ⟨_, he.1, law_post hl hp hvars (hspec ds (Go.trodAll_length hA).2) hW0 he.2 hres hbool⟩

end Go.Ax
