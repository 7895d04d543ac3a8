/-
  The executor with lists that lie aside of the walk.
-/
import Derived.Test.YtkkgpcbkkahieaaAx2
set_option linter.unusedVariables false
set_option linter.unusedSimpArgs false
set_option linter.unusedSectionVars false

/-
  AxBD: lists that lie aside of the walk, known by their values; the condition of a piece of code that makes and marks such lists.
-/
namespace Go.Ax

/-- Lists that lie aside: their values, what they hold. -/
abbrev HH := List (Value × List Int)

/-- A call of its own kind: what it asks and what it leaves. -/
structure BF where
  run : (T : Nat) → St → HH → List AV → (AV → List (Nat × Option (Nat × Obj)) → HH → Prop) → Prop

inductive SpK where
  | hide
  | call (f : Nat) (R : BF)

structure BX where
  cx : Cx
  ity : Nat
  sp : Nat → Option SpK

def SV.hid (T : Nat) (u : Value) : SV → SV
  | .own t => bif Nat.beq t T then .val u else .own t
  | v => v

def hidL (T : Nat) (u : Value) : List SV → List SV
  | [] => []
  | v :: vs => v.hid T u :: hidL T u vs

def hidT (T : Nat) (u : Value) : List (SV ⊕ List SV) → List (SV ⊕ List SV)
  | [] => []
  | .inl v :: vs => .inl (v.hid T u) :: hidT T u vs
  | .inr l :: vs => .inr (hidL T u l) :: hidT T u vs

def AV.hid (T : Nat) (u : Value) : AV → AV
  | .sc v => .sc (v.hid T u)
  | .agg l => .agg (hidL T u l)
  | .tup l => .tup (hidT T u l)

/-- The state with an array laid aside. -/
def hideSt (s : St) (d T : Nat) (u : Value) : St :=
  { tm := upd s.tm d ((s.tm d).hid T u), st := { lv := s.st.lv, ob := over [(T, none)] s.st.ob }, ep := s.ep, n := s.n }

/-- What is behind an operation whose result's array is laid aside. -/
def hideK (ity : Nat) (d : Option Nat) (s : St) (h : HH) (v : AV) (ov : List (Nat × Option (Nat × Obj))) (K : St → HH → Prop) : Prop :=
  match d, v.tags with
  | some d, T :: _ => match over ov s.st.ob T with
    | some (l, .arr ety .int xs) => bif Nat.beq ety ity && Nat.ble s.st.lv l && Nat.ble 8192 T then ∀ u : Value, K (hideSt (s.put (some d) v ov) d T u) (cat h [(u, xs)]) else False
    | _ => False
  | _, _ => False

def wpBL (B : BX) (ops : Array Oper) (K : St → HH → Prop) : List Oper → St → HH → Prop
  | [], s, h => K s h
  | o :: r, s, h => match guardOf ops o s with
    | some true => match o.dst.bind B.sp with
      | none => (opX B.cx o s.ev s.st (tagBase s.ep o.dst)).run fun v ov => wpBL B ops K r (s.put o.dst v ov) h
      | some .hide => (opX B.cx o s.ev s.st (tagBase s.ep o.dst)).run fun v ov => hideK B.ity o.dst s h v ov (wpBL B ops K r)
      | some (.call f R) => match o.op with
        | .call c => match c.callee with
          | .value (.func g) => bif Nat.beq g f then R.run (tagBase s.ep o.dst) s h (c.args.toList.map s.ev) fun v ov h' => v.force fun v => forceO ov fun ov => wpBL B ops K r (s.put o.dst v ov) h' else False
          | _ => False
        | _ => False
    | some false => wpBL B ops K r (s.put o.dst (.sc .gone) []) h
    | none => False

def wpBR (B : BX) (ops : Array Oper) (draw : Bool) (K : St → HH → Prop) (s : St) (h : HH) : Prop :=
  bif nodupB (dstsOf ops.toList) && allLt s.n (dstsOf ops.toList) && allLt 511 (dstsOf ops.toList) && opsFit ops.toList && Bool.not draw then wpBL B ops K ops.toList s.tick h else False

def wpB (B : BX) (ann : Nat → Option LAnn) : Code → (Ex → St → HH → Prop) → St → HH → Prop
  | .skip, Q, s, h => Q .normal s h
  | .region _ ops draw, Q, s, h => wpBR B ops draw (Q .normal) s h
  | .seq a b, Q, s, h => wpB B ann a (fun e s' h' => match e with
    | .normal => wpB B ann b Q s' h'
    | e => Q e s' h') s h
  | .cond c a b, Q, s, h => match s.ev c with
    | .sc (.bool true) => wpB B ann a Q s h
    | .sc (.bool false) => wpB B ann b Q s h
    | _ => False
  | .block id a, Q, s, h => wpB B ann a (fun e s' h' => match e with
    | .exit i => bif Nat.beq i id then Q .normal s' h' else Q (.exit i) s' h'
    | e => Q e s' h') s h
  | .loop a, Q, s, h => match (key a).bind ann with
    | none => False
    | some l => match LAnn.get s l with
      | none => False
      | some ds =>
        bif LAnn.tagsOK s l && nodupB (annSlots l) && subB (annSlots l) (mods a) && disj (annBoxes l) (cat (annSlots l) (mods a)) && Nat.ble (LAnn.kinds l).length 8000 && allLt s.n (annSlots l) then
          ∃ I : HH → Cur Prop (LAnn.kinds l), ∃ m : Cur Nat (LAnn.kinds l), Cur.app False _ (I h) ds ∧
            ∀ h1 : HH, BKs.all (LAnn.kinds l) fun vs => Cur.app False _ (I h1) vs →
              wpB B ann a (fun e s' h2 => match e with
                | .normal => match LAnn.get s' l with
                  | some ws => bif LAnn.tagsOK s' l then Cur.app False _ (I h2) ws ∧ atom (Cur.app 0 _ m ws < Cur.app 0 _ m vs) else False
                  | none => False
                | e => Q e (s'.relv s.st.lv) h2) (headSt s l (mods a) vs) h1
        else False
  | .exit id, Q, s, h => Q (.exit id) s h
  | .ret, Q, s, h => Q .ret s h
  | _, _, _, _ => False

/-! ### Entries whose lists lie aside -/

/-- A name, the value of a list, what it holds. -/
abbrev E3 := Int × Value × List Int
def nvs (e : List E3) : List (Int × Value) := e.map fun x => (x.1, x.2.1)
def vls (e : List E3) : HH := e.map fun x => (x.2.1, x.2.2)
def nls (e : List E3) : List (Int × List Int) := e.map fun x => (x.1, x.2.2)

def markE : Int → List E3 → List E3
  | _, [] => []
  | k, x :: r => (k, x.2.1, markL (k + 1) x.2.2.length) :: markE (k + 1 + (x.2.2.length : Int)) r

def endE : Int → List E3 → Int
  | k, [] => k
  | k, x :: r => endE (k + 1 + (x.2.2.length : Int)) r

def AK.rd : AK → Bool
  | .sc k => k.plain
  | _ => false

/-- The call of a function that only reads, its first argument an array of entries whose lists lie aside. -/
def lendBF (F : FSpec) : BF where
  run T s h avs K := match avs with
    | .sc (.own A) :: rest => match s.st.ob A, F.args with
      | some (_, .arr _ .ev xs), .sc (.sl .ent) :: ks => match AKs.data s.st ks rest with
        | some ds => bif ks.all AK.rd && F.outs.all AK.loose && Nat.ble (AKs.width F.outs) 16 && Option.isNone F.lend then
            ∃ e : List E3, atom (xs = nvs e) ∧ atom (∀ p ∈ vls e, p ∈ h) ∧ atom (F.pre (.sc (.sl .ent (nls e)) :: ds)) ∧
              AKs.all F.outs fun rs => bif F.chk (.sc (.sl .ent (nls e)) :: ds) rs then atom (F.post (.sc (.sl .ent (nls e)) :: ds) rs) → K (resVal (AKs.res s.st.lv F.outs rs T).1) (AKs.res s.st.lv F.outs rs T).2 h else True
          else False
        | none => False
      | _, _ => False
    | _ => False

/-- A contract by which lists come back that lie aside. -/
structure FB where
  args : List AK
  outs : List AK
  pre : List AV → Prop
  post : List AV → List AV → HH → Prop

def famBF (F : FB) : BF where
  run T s h avs K := match AKs.data s.st F.args avs with
    | some ds => bif F.args.all AK.rd && F.outs.all AK.loose && Nat.ble (AKs.width F.outs) 16 then
        atom (F.pre ds) ∧ AKs.all F.outs fun rs => ∀ h' : HH, atom (F.post ds rs h') → K (resVal (AKs.res s.st.lv F.outs rs T).1) (AKs.res s.st.lv F.outs rs T).2 (cat h h')
      else False
    | none => False

/-- The call of a function that marks entries and their lists. -/
def markBF (ety : Nat) : BF where
  run T s h avs K := match avs with
    | [.sc (.own A), .sc (.int .i64 k)] => match s.st.ob A with
      | some (l, .arr ety' .ev xs) => bif wrt s.st l && Nat.beq ety' ety then
          ∃ e : List E3, ∃ h1 h2 : HH, atom (xs = nvs e) ∧ atom (h = cat h1 (cat (vls e) h2)) ∧ atom (0 ≤ k) ∧ atom (endE k e ≤ 1000000000) ∧
            K (.sc (.int .i64 (endE k e))) [(A, some (l, .arr ety' .ev (nvs (markE k e))))] (cat h1 (cat (vls (markE k e)) h2))
        else False
      | _ => False
    | _ => False

/-- The call of a function that marks a list that lies aside. -/
def mark1BF : BF where
  run T s h avs K := match avs with
    | [.sc (.val v), .sc (.int .i64 k)] => ∃ l : List Int, ∃ h1 h2 : HH, atom (h = cat h1 ((v, l) :: h2)) ∧ atom (0 ≤ k) ∧ atom (k ≤ 1000000000) ∧ atom ((l.length : Int) ≤ 1000000000) ∧
        K (.sc (.int .i64 (k + (l.length : Int)))) [] (cat h1 ((v, markL k l.length) :: h2))
    | _ => False


/-! ### Functions -/

/-- A contract's kinds, laid out as the other contracts are. -/
def FB.plain (F : FB) : FSpec := { args := F.args, outs := F.outs, pre := F.pre, post := fun _ _ => True, kept := false }

def exitF (cx : Cx) (F : FB) (res : List ResultVar) (ds : List AV) (s : St) (h : HH) : Prop :=
  match retData s.st F.outs (res.map (resA cx s)) with
  | some rs => bif nodupB (retTags s.st F.outs (res.map (resA cx s))) then ∃ h1 : HH, ∃ h2 : HH, atom (h = cat h1 h2) ∧ atom (F.post ds rs h1) else False
  | none => False

/-- THE CONDITION of a function by which lists come back that lie aside. -/
def vcF (B : BX) (ann : Nat → Option LAnn) (fn : Func) (F : FB) : Prop :=
  match fn.body with
  | none => False
  | some c => bif F.plain.ok && Nat.ble F.args.length fn.ntmps && F.args.all AK.rd && F.outs.all AK.loose then AKs.all F.args fun ds => atom (F.pre ds) →
      wpB B ann c (fun e s h => match e with
        | .exit _ => False
        | _ => exitF B.cx F fn.results.toList ds s h) (enterSt fn.ntmps F.args ds) []
    else False

def markF (ety : Nat) : FSpec where
  args := [.sc (.own ety .ev), .sc .int]
  outs := [.sc .int]
  pre := fun _ => True
  post := fun _ _ => True
  kept := false

def exitM (cx : Cx) (ety : Nat) (k : Int) (e : List E3) (res : List ResultVar) (s : St) (h : HH) : Prop :=
  match s.st.ob 0, res.map (resA cx s) with
  | some (_, .arr ety' .ev ys), [.sc (.int .i64 r)] => bif Nat.beq ety' ety then atom (ys = nvs (markE k e)) ∧ atom (r = endE k e) ∧ atom (h = vls (markE k e)) else False
  | _, _ => False

/-- THE CONDITION of a function that marks entries and their lists. -/
def vcM (B : BX) (ann : Nat → Option LAnn) (ety : Nat) (fn : Func) : Prop :=
  match fn.body with
  | none => False
  | some c => bif Nat.ble 2 fn.ntmps then ∀ (e : List E3) (k : Int), atom (0 ≤ k) → atom (endE k e ≤ 1000000000) →
      wpB B ann c (fun ex s h => match ex with
        | .exit _ => False
        | _ => exitM B.cx ety k e fn.results.toList s h) (enterSt fn.ntmps (markF ety).args [.sc (.sl .ev (nvs e)), .sc (.int .i64 k)]) (vls e)
    else False

end Go.Ax

/-
  AxB1: the walk with lists that lie aside: what stands.
-/
namespace Go.Ax

def hidIs (ity : Nat) (w : World) (p : Value × List Int) : Prop := ∃ c, w.ownsRow 0 ity 1 p.1 p.2.length c ∧ rowCells (fun _ => False) w .int p.2 c

/-- A later place of the same call. -/
structure Ext (E0 E : Env) : Prop where
  P : E.P = E0.P
  os : E.w0.os = E0.w0.os
  tape : E.w0.tape = E0.w0.tape
  output : E.w0.output = E0.w0.output
  size : E0.w0.heap.size ≤ E.w0.heap.size
  block : ∀ b, b < E0.w0.heap.size → ¬ E0.io b → E.w0.heap[b]? = E0.w0.heap[b]?
  s0 : ∀ b, E0.S0 b → E.S0 b
  sn : ∀ b, E.S0 b → E0.S0 b ∨ E0.w0.heap.size ≤ b ∨ E0.io b
  io : ∀ b, E.io b → E0.io b ∨ E0.w0.heap.size ≤ b
  r0 : ∀ T, T < 8192 → E.ρ0 T = E0.ρ0 T

theorem Ext.refl (E : Env) : Ext E E := ⟨rfl, rfl, rfl, rfl, Nat.le_refl _, fun _ _ _ => rfl, fun _ h => h, fun _ h => .inl h, fun _ h => .inl h, fun _ _ => rfl⟩

structure HidS (E0 E : Env) (ity : Nat) (h : HH) (w : World) : Prop where
  is : ∀ p ∈ h, hidIs ity w p
  ap : h.Pairwise fun p q => apart2 p.1 q.1
  fr : ∀ p ∈ h, ∀ g, blk p.1 = some g → g < E.w0.heap.size ∧ ¬ E.S0 g ∧ ¬ E.io g ∧ (E0.w0.heap.size ≤ g ∨ E0.io g)

structure RepB (E0 : Env) (ity : Nat) (E : Env) (ρ : Nat → Value) (S : Nat → Prop) (s : St) (h : HH) (a : Act) (w : World) : Prop where
  ext : Ext E0 E
  rep : Rep E ρ S s a w
  hid : HidS E0 E ity h w

theorem ownsRow_mono {w w' : World} {base ety k : Nat} {v : Value} {n : Nat} {cs : List Value} (h : w.ownsRow base ety k v n cs) (hb : ∀ g, blk v = some g → w'.heap[g]? = w.heap[g]?) : w'.ownsRow base ety k v n cs := by
  refine ⟨h.1, h.2.imp id ?_⟩
  rintro ⟨g, cap, cur, hv, hg0, hg, rest⟩
  exact ⟨g, cap, cur, hv, hg0, (hb g (by rw [hv]; rfl)).trans hg, rest⟩

theorem hidIs.mono {ity : Nat} {w w' : World} {p : Value × List Int} (h : hidIs ity w p) (hb : ∀ g, blk p.1 = some g → w'.heap[g]? = w.heap[g]?) : hidIs ity w' p := by
  obtain ⟨c, h1, h2⟩ := h
  exact ⟨c, ownsRow_mono h1 hb, h2.mono ⟨fun _ h => h.elim⟩ (fun _ h => h)⟩

theorem hidIs.lt {ity : Nat} {w : World} {p : Value × List Int} (h : hidIs ity w p) : ∀ g, blk p.1 = some g → g < w.heap.size := by
  obtain ⟨c, h1, _⟩ := h
  intro g hg
  rcases h1.2 with ⟨hv, _⟩ | ⟨g', cap, cur, hv, _, hg', _⟩
  · rw [hv] at hg; simp [blk] at hg
  · rw [hv] at hg; simp [blk] at hg; subst hg; exact (Array.getElem?_eq_some_iff.1 hg').1

section
variable {E0 E : Env} {ity : Nat} {ρ ρ' : Nat → Value} {S S' : Nat → Prop} {s s' : St} {h : HH} {a a' : Act} {w w' : World}

theorem HidS.step (hh : HidS E0 E ity h w) (r : Rep E ρ S s a w) (r' : Rep E ρ' S' s' a' w') : HidS E0 E ity h w' :=
  ⟨fun p hp => (hh.is p hp).mono fun g hg => by
    obtain ⟨h1, _, h3, _⟩ := hh.fr p hp g hg
    rw [r'.fr.block g h1 h3, r.fr.block g h1 h3], hh.ap, hh.fr⟩

/-- A hidden list lies in none of the arrays of the walk, nor in what is read. -/
theorem HidS.notS (hh : HidS E0 E ity h w) (r : Rep E ρ S s a w) {p : Value × List Int} (hp : p ∈ h) {g : Nat} (hg : blk p.1 = some g) : ¬ S g ∧ ∀ T x, s.st.ob T = some x → blk (ρ T) ≠ some g := by
  obtain ⟨h1, h2, h3, _⟩ := hh.fr p hp g hg
  refine ⟨fun hS => ?_, fun T x hx hT => ?_⟩
  · rcases r.sn g hS with q | q | q
    · exact h2 q
    · omega
    · exact h3 q
  · by_cases h8 : T < 8192
    · exact h3 (r.io T x hx h8 g hT)
    · rcases r.ow T x hx (by omega) g hT with q | q
      · omega
      · exact h3 q

theorem Ext.ioS (hx : Ext E0 E) (r : Rep E ρ S s a w) {T : Nat} {x : Nat × Obj} (hT : s.st.ob T = some x) {g : Nat} (hg : blk (ρ T) = some g) : E0.io g ∨ E0.w0.heap.size ≤ g := by
  by_cases h8 : T < 8192
  · exact hx.io g (r.io T x hT h8 g hg)
  · rcases r.ow T x hT (by omega) g hg with q | q
    · exact .inr (Nat.le_trans hx.size q)
    · exact hx.io g q

/-- THE WALK GOES ON FROM A NEW PLACE: some arrays are laid aside, some have new contents. -/
theorem Rep.rebase (hx : Ext E0 E) (r : Rep E ρ S s a w) {s2 : St} {w2 : World} (hn : s2.n = s.n) (tm : ∀ t, repA ρ S w2 (s2.tm t) (a.tmps.getD t undef))
    (ob : ∀ T l o, s2.st.ob T = some (l, o) → repO ρ S w2 T o) (sub : ∀ T x, s2.st.ob T = some x → ∃ x', s.st.ob T = some x') (hsz : w.heap.size ≤ w2.heap.size)
    (hos : w2.os = w.os) (htape : w2.tape = w.tape) (hout : w2.output = w.output) (hS : ∀ b, S b → w2.heap[b]? = w.heap[b]?) (hfr : ∀ b, b < E0.w0.heap.size → ¬ E0.io b → w2.heap[b]? = w.heap[b]?) :
    ∃ E2 : Env, Ext E0 E2 ∧ E2.w0 = w2 ∧ E2.S0 = S ∧ (∀ b, E2.io b → ∃ T x, s2.st.ob T = some x ∧ blk (ρ T) = some b) ∧ Rep E2 ρ S s2 a w2 := by
  have hnio : ∀ b, S b → b < w2.heap.size ∧ ¬ ∃ T x, s2.st.ob T = some x ∧ blk (ρ T) = some b := fun b hb => by
    refine ⟨Nat.lt_of_lt_of_le (r.ss b hb).1 hsz, ?_⟩
    rintro ⟨T, x, hT, hg⟩
    obtain ⟨x', hx'⟩ := sub T x hT
    exact (r.ss b hb).2 T x' hx' hg
  let E2 : Env := { P := E.P, w0 := w2, S0 := S, io := fun b => ∃ T x, s2.st.ob T = some x ∧ blk (ρ T) = some b, ρ0 := ρ, gl := r.gl.mono hS (fun _ h => h), nio := hnio }
  refine ⟨E2, ⟨hx.P, ?_, ?_, ?_, Nat.le_trans hx.size (Nat.le_trans r.fr.size hsz), fun b hb hio => ?_, fun b hb => r.s0 b (hx.s0 b hb), fun b hb => ?_, fun b hb => ?_, fun T hT => (r.r0 T hT).trans (hx.r0 T hT)⟩, rfl, rfl, fun b hb => hb, ?_⟩
  · exact hos.trans (r.fr.os.trans hx.os)
  · exact htape.trans (r.fr.tape.trans hx.tape)
  · exact hout.trans (r.fr.output.trans hx.output)
  · show w2.heap[b]? = _
    rw [hfr b hb hio, r.fr.block b (Nat.lt_of_lt_of_le hb hx.size) (fun q => ?_), hx.block b hb hio]
    rcases hx.io b q with q | q
    · exact hio q
    · omega
  · rcases r.sn b hb with q | q | q
    · exact hx.sn b q
    · exact .inr (.inl (Nat.le_trans hx.size q))
    · rcases hx.io b q with q | q
      · exact .inr (.inr q)
      · exact .inr (.inl q)
  · obtain ⟨T, x, hT, hg⟩ := hb
    obtain ⟨x', hx'⟩ := sub T x hT
    exact hx.ioS r hx' hg
  · refine ⟨r.df, r.sz.trans hn.symm, tm, ob, fun T T' x x' h1 h2 hne => ?_, fun b hb => ⟨Nat.lt_of_lt_of_le (r.ss b hb).1 hsz, fun T x hT => ?_⟩, fun b hb => hb, fun b hb => .inl hb, fun T x hT _ g hg => .inr ⟨T, x, hT, hg⟩, fun T x hT _ g hg => ⟨T, x, hT, hg⟩, fun _ _ => rfl,
      ⟨rfl, rfl, rfl, Nat.le_refl _, fun _ _ _ => rfl⟩⟩
    · obtain ⟨y, hy⟩ := sub T x h1
      obtain ⟨y', hy'⟩ := sub T' x' h2
      exact r.dj T T' y y' hy hy' hne
    · obtain ⟨y, hy⟩ := sub T x hT
      exact (r.ss b hb).2 T y hy

/-- What lies aside, seen from a new place. -/
theorem HidS.rebase (hh : HidS E0 E ity h w) (r : Rep E ρ S s a w) {E2 : Env} {w2 : World} (hw : E2.w0 = w2) (hS0 : E2.S0 = S) {s2 : St} (hio : ∀ b, E2.io b → ∃ T x, s2.st.ob T = some x ∧ blk (ρ T) = some b) (sub : ∀ T x, s2.st.ob T = some x → ∃ x', s.st.ob T = some x')
    (hsz : w.heap.size ≤ w2.heap.size) : ∀ p ∈ h, ∀ g, blk p.1 = some g → g < E2.w0.heap.size ∧ ¬ E2.S0 g ∧ ¬ E2.io g ∧ (E0.w0.heap.size ≤ g ∨ E0.io g) := by
  intro p hp g hg
  obtain ⟨h1, h2⟩ := hh.notS r hp hg
  refine ⟨by rw [hw]; exact Nat.lt_of_lt_of_le ((hh.is p hp).lt g hg) hsz, by rw [hS0]; exact h1, fun q => ?_, (hh.fr p hp g hg).2.2.2⟩
  obtain ⟨T, x, hT, hb⟩ := hio g q
  obtain ⟨x', hx'⟩ := sub T x hT
  exact h2 T x' hx' hb

/-! ### An array is laid aside -/

theorem SV.hid_rep {T : Nat} {u : SV} {c : Value} (hr : repS ρ S w u c) : repS ρ S w (u.hid T (ρ T)) c := by
  cases u with
  | own t =>
    simp only [SV.hid]
    by_cases ht : t = T
    · subst ht
      rw [beq_iff.2 rfl, cond_true]
      exact hr
    · rw [beq_ff.2 ht, cond_false]; exact hr
  | _ => exact hr

theorem SV.hid_ok {T : Nat} {u : SV} {v : Value} (hr : u.ok = true) : (u.hid T v).ok = true := by
  cases u with
  | own t =>
    simp only [SV.hid]
    cases Nat.beq t T <;> rfl
  | _ => exact hr

theorem hidL_get {T : Nat} {v : Value} : ∀ {l : List SV} {j : Nat}, (hidL T v l)[j]? = (l[j]?).map (SV.hid T v)
  | [], j => by simp [hidL]
  | x :: l, 0 => by simp [hidL]
  | x :: l, j + 1 => by simp [hidL, hidL_get]

theorem hidL_len {T : Nat} {v : Value} : ∀ {l : List SV}, (hidL T v l).length = l.length
  | [] => rfl
  | x :: l => by simp [hidL, hidL_len]

theorem hidL_rep {T : Nat} {l : List SV} {cs : Array Value} (hr : repL ρ S w l cs) : repL ρ S w (hidL T (ρ T) l) cs := by
  refine ⟨by rw [hidL_len]; exact hr.1, fun j u hj => ?_⟩
  rw [hidL_get, Option.map_eq_some_iff] at hj
  obtain ⟨u', h1, rfl⟩ := hj
  obtain ⟨h2, c, h3, h4⟩ := hr.2 j u' h1
  exact ⟨SV.hid_ok h2, c, h3, SV.hid_rep h4⟩

theorem hidT_get {T : Nat} {v : Value} : ∀ {l : List (SV ⊕ List SV)} {j : Nat}, (hidT T v l)[j]? = (l[j]?).map (fun x => match x with | .inl u => .inl (u.hid T v) | .inr l => .inr (hidL T v l))
  | [], j => by simp [hidT]
  | .inl x :: l, 0 => by simp [hidT]
  | .inr x :: l, 0 => by simp [hidT]
  | .inl x :: l, j + 1 => by simp [hidT, hidT_get]
  | .inr x :: l, j + 1 => by simp [hidT, hidT_get]

theorem hidT_len {T : Nat} {v : Value} : ∀ {l : List (SV ⊕ List SV)}, (hidT T v l).length = l.length
  | [] => rfl
  | .inl x :: l => by simp [hidT, hidT_len]
  | .inr x :: l => by simp [hidT, hidT_len]

theorem AV.hid_rep {T : Nat} {u : AV} {c : Value} (hr : repA ρ S w u c) : repA ρ S w (u.hid T (ρ T)) c := by
  cases u with
  | sc u => exact SV.hid_rep hr
  | agg l =>
    obtain ⟨cs, h1, h2⟩ := hr
    exact ⟨cs, h1, hidL_rep h2⟩
  | tup l =>
    obtain ⟨cs, h1, h2, h3⟩ := hr
    refine ⟨cs, h1, by rw [hidT_len]; exact h2, fun j u hj => ?_⟩
    rw [hidT_get, Option.map_eq_some_iff] at hj
    obtain ⟨u', h4, rfl⟩ := hj
    obtain ⟨c', h5, h6⟩ := h3 j u' h4
    refine ⟨c', h5, ?_⟩
    cases u' with
    | inl u => exact SV.hid_rep h6
    | inr l =>
      obtain ⟨cs', h7, h8⟩ := h6
      exact ⟨cs', h7, hidL_rep h8⟩

theorem ints_noS {S : Nat → Prop} {w : World} {xs : List Int} {cs : List Value} (h : rowCells S w .int xs cs) : rowCells (fun _ => False) w .int xs cs := ints_any h

theorem cat_app {α : Type} (a b : List α) : cat a b = a ++ b := cat_eq a b

/-- LAID ASIDE. -/
theorem RepB.hide (hB : RepB E0 ity E ρ S s h a w) {d T l : Nat} {xs : List Int} (hob : s.st.ob T = some (l, .arr ity .int xs)) :
    ∃ E2, RepB E0 ity E2 ρ S (hideSt s d T (ρ T)) (cat h [(ρ T, xs)]) a w := by
  obtain ⟨hx, r, hh⟩ := hB
  have sub : ∀ T' x, (hideSt s d T (ρ T)).st.ob T' = some x → ∃ x', s.st.ob T' = some x' := fun T' x hx' => by
    simp only [hideSt, over_cons, over_nil] at hx'
    split at hx'
    · cases hx'
    · exact ⟨x, hx'⟩
  have hne : ∀ T' x, (hideSt s d T (ρ T)).st.ob T' = some x → T' ≠ T ∧ s.st.ob T' = some x := fun T' x hx' => by
    simp only [hideSt, over_cons, over_nil] at hx'
    split at hx'
    · cases hx'
    · rename_i q; exact ⟨q, hx'⟩
  obtain ⟨E2, x1, x2, x3, x4, x5⟩ := r.rebase hx (s2 := hideSt s d T (ρ T)) (w2 := w) rfl (fun t => by
      simp only [hideSt, upd]
      by_cases ht : t = d
      · rw [beq_iff.2 ht, cond_true, ← ht]; exact AV.hid_rep (r.tm t)
      · rw [beq_ff.2 ht, cond_false]; exact r.tm t)
    (fun T' l' o ho => r.ob T' l' o (hne T' _ ho).2) sub (Nat.le_refl _) rfl rfl rfl (fun _ _ => rfl) (fun _ _ _ => rfl)
  refine ⟨E2, x1, x5, ?_⟩
  have hnew : ∀ g, blk (ρ T) = some g → g < w.heap.size := (r.ob T l _ hob).lt
  refine ⟨fun p hp => ?_, ?_, fun p hp g hg => ?_⟩
  · rw [cat_eq, List.mem_append, List.mem_singleton] at hp
    rcases hp with hp | rfl
    · exact hh.is p hp
    · obtain ⟨cs, h1, h2⟩ := r.ob T l _ hob
      exact ⟨cs, h1, ints_noS h2⟩
  · rw [cat_eq, List.pairwise_append]
    refine ⟨hh.ap, by simp, fun p hp q hq g hg hg' => ?_⟩
    rw [List.mem_singleton] at hq
    subst hq
    exact (hh.notS r hp hg).2 T _ hob hg'
  · rw [cat_eq, List.mem_append, List.mem_singleton] at hp
    rcases hp with hp | rfl
    · exact hh.rebase r x2 x3 x4 sub (Nat.le_refl _) p hp g hg
    · refine ⟨by rw [x2]; exact hnew g hg, by rw [x3]; exact fun hS => (r.ss g hS).2 T _ hob hg, fun q => ?_, (hx.ioS r hob hg).symm⟩
      obtain ⟨T', x, hT', hb⟩ := x4 g q
      obtain ⟨q1, q2⟩ := hne T' x hT'
      exact r.dj T' T x _ q2 hob q1 g hb hg

end
end Go.Ax

/-
  AxB2: calls of their own kinds.
-/
namespace Go.Ax

section
variable {E0 E : Env} {ity : Nat} {ρ ρ' : Nat → Value} {S S' : Nat → Prop} {s s' : St} {h : HH} {a a' : Act} {w w' : World} {U : Nat → Prop} {d : Option Nat} {T : Nat}

/-- The results of a call that has changed nothing. -/
theorem Rep.results (r : Rep E ρ S s a w) (hU : Men U s) (hTU : ∀ t, T ≤ t → t < T + 16 → ¬ U t) (hT8 : 8192 ≤ T) (hd : ∀ x, d = some x → x < s.n) {ks : List AK} {rs : List AV} {outs : List Value}
    (hIs : AKs.Is ks rs) (hGot : AKs.Got S w' 0 ks rs outs) (hw16 : AKs.width ks ≤ 16) (hap : Apart (AKs.ps w' ks outs 0)) (hnew : ∀ p ∈ AKs.ps w' ks outs 0, ∀ g, blk p.2 = some g → w.heap.size ≤ g)
    (hsz : w.heap.size ≤ w'.heap.size) (hos : w'.os = w.os) (htape : w'.tape = w.tape) (hout : w'.output = w.output) (hfr : ∀ b, b < w.heap.size → w'.heap[b]? = w.heap[b]?) :
    ∃ ρ', Rep E ρ' S (s.put d (resVal (AKs.res s.st.lv ks rs T).1) (AKs.res s.st.lv ks rs T).2) (a.put d (packV outs)) w' ∧ (∀ t, U t → ρ' t = ρ t) ∧ (∀ T' x, (s.put d (resVal (AKs.res s.st.lv ks rs T).1) (AKs.res s.st.lv ks rs T).2).st.ob T' = some x → ∀ g, blk (ρ' T') = some g → g < w.heap.size ∨ ∃ q ∈ AKs.ps w' ks outs 0, blk q.2 = some g) := by
  let ρ' := bindL ρ T (AKs.tv w' ks outs)
  have hn : ∀ (i : Nat) c, (AKs.tv w' ks outs)[i]? = some c → ρ' (T + i) = c := fun i c hc => bindL_new hc
  obtain ⟨hwid, r2, r3, r4⟩ := AKs.res_rep (lv := s.st.lv) (ρ := ρ') (T := T) hGot hIs hn
  have hold : ∀ t, U t → ρ' t = ρ t := fun t hu => bindL_old (by
    by_cases hge : T ≤ t
    · by_cases h16 : t < T + 16
      · exact absurd hu (hTU t hge h16)
      · exact .inr (by omega)
    · exact .inl (by omega))
  have hsnd : (AKs.ps w' ks outs T).map (·.2) = (AKs.ps w' ks outs 0).map (·.2) := AKs.ps_snd
  have entry : ∀ T' l ob, T' ∈ ((AKs.res s.st.lv ks rs T).2).map (·.1) → over (AKs.res s.st.lv ks rs T).2 s.st.ob T' = some (l, ob) → repO ρ' S w' T' ob ∧ (T', ρ' T') ∈ AKs.ps w' ks outs T ∧ T ≤ T' ∧ ∀ g, blk (ρ' T') = some g → w.heap.size ≤ g := by
    intro T' l ob hk hx
    have hm := over_mem hk hx
    obtain ⟨ob', e1, e2, e3, _⟩ := r4 T' _ hm
    simp only [Option.some.injEq, Prod.mk.injEq] at e1
    obtain ⟨_, rfl⟩ := e1
    have hin := ((AKs.res_tags (lv := s.st.lv) T hIs).2 T' _ hm).1
    obtain ⟨q, hq, hq2⟩ := mem_of_snd hsnd e3
    exact ⟨e2, e3, by omega, fun g hg => hnew q hq g (by rw [hq2]; exact hg)⟩
  refine ⟨ρ', r.next hU hd (Kd := fun _ => False) (fun b hb _ => hfr b hb) hsz hos htape hout hold (fun t ht => bindL_old (.inl (by omega))) (fun b hb => hb) (fun b hb => .inl hb) (resVal_rep r2 r3) (fun _ hk => hk.elim) ?_ ?_, hold, fun T' x hx g hg => ?_⟩
  · intro T' l ob hk hx
    obtain ⟨e1, _, e3, e4⟩ := entry T' l ob hk hx
    exact ⟨e1, fun g hg => .inl ⟨e4 g hg, by omega⟩⟩
  · intro T1 T2 x1 x2 h1 h2 hx1 hx2 hne b hb
    obtain ⟨_, e1, _⟩ := entry T1 x1.1 x1.2 h1 hx1
    obtain ⟨_, e2, _⟩ := entry T2 x2.1 x2.2 h2 hx2
    exact (hap.of_snd hsnd.symm).get e1 e2 (fun e => hne (congrArg Prod.fst e)) b hb
  · obtain ⟨l, ob⟩ := x
    by_cases hk : T' ∈ ((AKs.res s.st.lv ks rs T).2).map (·.1)
    · obtain ⟨_, e1, _⟩ := entry T' l ob hk hx
      obtain ⟨q, hq, hq2⟩ := mem_of_snd hsnd e1
      exact .inr ⟨q, hq, by rw [hq2]; exact hg⟩
    · have hx0 : s.st.ob T' = some (l, ob) := (over_out (f := s.st.ob) hk).symm.trans hx
      rw [hold T' (hU.lv T' _ hx0)] at hg
      exact .inl ((r.ob T' l ob hx0).lt g hg)

/-! ### An array of entries, read -/

theorem own_ints {Sb : Nat → Prop} {ety : Nat} {v : Value} {l : List Int} {c : List Value} (h1 : w.ownsRow 0 ety 1 v l.length c) (h2 : rowCells S w .int l c) (hS : ∀ g, blk v = some g → Sb g) : intsRep Sb w l v := by
  rcases own_slice (e := .int) h1 with ⟨hm, rfl⟩ | ⟨g, cap, hm, hle⟩
  · exact ⟨none, 0, hm, ⟨Nat.le_refl _, fun _ => rfl⟩, .inl rfl⟩
  · refine ⟨_, cap, hm, ⟨hle, fun e => by cases e⟩, .inr ⟨g, 0, rfl, hS g (by rw [hm]; rfl), fun i m hi => ?_⟩⟩
    rw [hm] at h1
    obtain ⟨cv, h7, h8⟩ := rowCells_at (e := .int) h1 h2 i m hi 0 _ rfl
    rw [show cv = .int .i64 m from h8] at h7
    simpa [ET.size] using h7

theorem nvs_len (e : List E3) : (nvs e).length = e.length := by simp [nvs]
theorem nls_len (e : List E3) : (nls e).length = e.length := by simp [nls]

theorem ents_row {Sb : Nat → Prop} {ety : Nat} {v : Value} {e : List E3} {c : List Value} (h1 : w.ownsRow 0 ety 2 v (nvs e).length c) (h2 : rowCells S w .ev (nvs e) c) (hS : ∀ g, blk v = some g → Sb g)
    (hl : ∀ p ∈ vls e, hidIs ity w p) (hSl : ∀ p ∈ vls e, ∀ g, blk p.1 = some g → Sb g) : rowRep Sb w .ent (nls e) v := by
  rcases own_slice (e := .ev) h1 with ⟨hm, hx⟩ | ⟨g, cap, hm, hle⟩
  · have : e = [] := by cases e <;> first | rfl | cases hx
    subst this
    exact ⟨none, 0, hm, ⟨Nat.le_refl _, fun _ => rfl⟩, .inl rfl⟩
  · refine ⟨_, cap, by rw [hm, nls_len, nvs_len], ⟨by rw [nls_len, ← nvs_len]; exact hle, fun e => by cases e⟩, .inr ⟨g, 0, rfl, hS g (by rw [hm]; rfl), fun i x hi => ?_⟩⟩
    rw [hm] at h1
    simp only [nls, List.getElem?_map, Option.map_eq_some_iff] at hi
    obtain ⟨y, hy, rfl⟩ := hi
    have hat := rowCells_at (e := .ev) h1 h2 i (y.1, y.2.1) (by simp [nvs, hy])
    have hmem : (y.2.1, y.2.2) ∈ vls e := List.mem_map.2 ⟨y, List.mem_of_getElem? hy, rfl⟩
    intro j u hj
    match j, hj with
    | 0, hj =>
      simp only [ET.cells, List.getElem?_cons_zero, Option.some.injEq] at hj; subst hj
      obtain ⟨cv, q1, q2⟩ := hat 0 _ rfl
      exact ⟨cv, by simpa [ET.size] using q1, q2⟩
    | 1, hj =>
      simp only [ET.cells, List.getElem?_cons_succ, List.getElem?_cons_zero, Option.some.injEq] at hj; subst hj
      obtain ⟨cv, q1, q2⟩ := hat 1 _ rfl
      refine ⟨cv, by simpa [ET.size] using q1, ?_⟩
      obtain ⟨rfl, _⟩ : cv = y.2.1 ∧ _ := q2
      obtain ⟨c', p1, p2⟩ := hl _ hmem
      exact own_ints p1 p2 (hSl _ hmem)
    | j + 2, hj => simp [ET.cells] at hj

/-! ### Kinds that are only read -/

theorem BK.plain_ps {k : BK} (hk : k.plain = true) (v : Value) (T : Nat) : k.ps v T = [] := by cases k <;> first | rfl | cases hk

theorem ro_all {ks : List AK} (hk : ks.all AK.rd = true) : (∀ (w : World) (vs : List Value) (T : Nat), AKs.ps w ks vs T = []) ∧ outKs ks = [] ∧ ∀ vs, ioVals ks vs = [] := by
  induction ks with
  | nil => exact ⟨fun _ vs _ => by cases vs <;> rfl, rfl, fun vs => by cases vs <;> rfl⟩
  | cons k ks ih =>
    simp only [List.all_cons, Bool.and_eq_true] at hk
    obtain ⟨i1, i2, i3⟩ := ih hk.2
    cases k with
    | sc k =>
      have hp : k.plain = true := hk.1
      refine ⟨fun w vs T => ?_, ?_, fun vs => ?_⟩
      · cases vs with
        | nil => rfl
        | cons v vs => simp only [AKs.ps, AK.ps, BK.plain_ps hp, i1, List.append_nil]
      · cases k <;> first | exact i2 | exact absurd hp (by simp [BK.plain])
      · cases vs with
        | nil => cases k <;> rfl
        | cons v vs => cases k <;> first | exact i3 vs | exact absurd hp (by simp [BK.plain])
    | agg ks => exact absurd hk.1 (by simp [AK.rd])
    | box ks => exact absurd hk.1 (by simp [AK.rd])

theorem fnone {α : Type} {o : Option α} (h : Option.isNone o = true) : o = none := by cases o <;> first | rfl | cases h

/-- What a call of its own kind must do. -/
structure BFok (P : Program) (ity : Nat) (f : FuncId) (R : BF) : Prop where
  there : ∃ fn c, P.funcs[f]? = some fn ∧ fn.body = some c ∧ (fn.name == "runtime.NumGoroutine") = false
  call : ∀ {E0 E : Env} {ρ : Nat → Value} {S : Nat → Prop} {s : St} {h : HH} {a : Act} {w : World} {U : Nat → Prop} {d : Option Nat} {T : Nat} {avs : List AV} {cvs : List Value} {K : AV → List (Nat × Option (Nat × Obj)) → HH → Prop},
    E.P = P → RepB E0 ity E ρ S s h a w → Men U s → (∀ t, T ≤ t → t < T + 16 → ¬ U t) → 8192 ≤ T → (∀ x, d = some x → x < s.n) → repAs ρ S w avs cvs → R.run T s h avs K →
    Calls P f cvs.toArray w fun e w' => ∃ cv v ov h' E' ρ' S', e = .returned cv ∧ RepB E0 ity E' ρ' S' (s.put d v ov) h' (a.put d cv) w' ∧ K v ov h' ∧
      (∀ t ∈ v.tags, U t ∨ (T ≤ t ∧ t < T + 16)) ∧ ∀ t x, (t, x) ∈ ov → (U t ∨ (T ≤ t ∧ t < T + 16)) ∧ (∀ l o, x = some (l, o) → ∀ u ∈ o.tags, U u ∨ (T ≤ u ∧ u < T + 16)) ∧ ∀ l o, s.st.ob t = some (l, o) → s.st.lv ≤ l

/-- The tags of results are new. -/
theorem results_fit {lv : Nat} {ks : List AK} {rs : List AV} (hIs : AKs.Is ks rs) (hw16 : AKs.width ks ≤ 16) (hU : Men U s) (hTU : ∀ t, T ≤ t → t < T + 16 → ¬ U t) :
    (∀ t ∈ (resVal (AKs.res lv ks rs T).1).tags, U t ∨ (T ≤ t ∧ t < T + 16)) ∧ ∀ t x, (t, x) ∈ (AKs.res lv ks rs T).2 → (U t ∨ (T ≤ t ∧ t < T + 16)) ∧ (∀ l o, x = some (l, o) → ∀ u ∈ o.tags, U u ∨ (T ≤ u ∧ u < T + 16)) ∧ ∀ l o, s.st.ob t = some (l, o) → s.st.lv ≤ l := by
  obtain ⟨h1, h2⟩ := AKs.res_tags (lv := lv) T hIs
  refine ⟨fun t ht => .inr ?_, fun t x hx => ?_⟩
  · have := h1 t (resVal_tags ▸ ht); omega
  · obtain ⟨q1, q2⟩ := h2 t x hx
    refine ⟨.inr (by omega), fun l o ho u hu => ?_, fun l o ho => absurd (hU.lv t _ ho) (hTU t (by omega) (by omega))⟩
    have := q2 l o ho u hu
    exact .inr (by omega)

/-- ENTRIES LENT. -/
theorem lend_ok {P : Program} {f : FuncId} {F : FSpec} (hM : Meets P f F) : BFok P ity f (lendBF F) where
  there := hM.there
  call := by
    intro E0 E ρ S s h a w U d T avs cvs K hP hB hU hTU hT8 hd hav hrun
    subst hP
    obtain ⟨hx, r, hh⟩ := hB
    simp only [lendBF] at hrun
    split at hrun
    · rename_i A rest
      split at hrun
      · rename_i l0 ety xs ks hob hargs
        split at hrun
        · rename_i ds hds
          cases hc : (ks.all AK.rd && F.outs.all AK.loose && Nat.ble (AKs.width F.outs) 16 && Option.isNone F.lend) with
          | false => rw [hc] at hrun; exact hrun.elim
          | true =>
            rw [hc] at hrun
            simp only [cond_true] at hrun
            simp only [Bool.and_eq_true, Nat.ble_eq] at hc
            obtain ⟨⟨⟨c1, c2⟩, c3⟩, c4⟩ := hc
            obtain ⟨e, he, hsub, hpre, hK⟩ := hrun
            have he : xs = nvs e := he
            have hsub : ∀ p ∈ vls e, p ∈ h := hsub
            subst he
            have hlend := fnone c4
            match cvs, hav with
            | cv :: crest, hav =>
              have hro : F.args.all AK.rd = true := by rw [hargs, List.all_cons, c1]; rfl
              obtain ⟨p1, p2, p3⟩ := ro_all hro
              -- what may be read
              let Sb : Nat → Prop := fun b => S b ∨ (∃ T x, s.st.ob T = some x ∧ blk (ρ T) = some b) ∨ ∃ p ∈ h, blk p.1 = some b
              obtain ⟨d1, d2, d3⟩ := AKs.data_ret hds
              obtain ⟨g1, g2, _, _⟩ := AKs.got (Sb := Sb) (base := 0) r (fun b hb => .inl hb) (cs := crest) 0 hav.2 d1 (fun t ht x hx b hb => .inr (.inl ⟨t, x, hx, hb⟩)) (fun _ _ _ _ => Nat.zero_le _)
              obtain ⟨cs, o1, o2⟩ := r.ob A l0 _ hob
              have hcv : cv = ρ A := hav.1.1
              have hfirst : rowRep Sb w .ent (nls e) cv := by
                rw [hcv]
                exact ents_row (ity := ity) o1 o2 (fun g hg => .inr (.inl ⟨A, _, hob, hg⟩)) (fun p hp => hh.is p (hsub p hp)) (fun p hp g hg => .inr (.inr ⟨p, hsub p hp, hg⟩))
              have hIs : AKs.Is F.args (.sc (.sl .ent (nls e)) :: ds) := by rw [hargs]; exact ⟨rfl, g1⟩
              have hGot : AKs.Got Sb w 0 F.args (.sc (.sl .ent (nls e)) :: ds) (cv :: crest) := by rw [hargs]; exact ⟨⟨rfl, hfirst⟩, g2⟩
              have hSblt : ∀ b, Sb b → b < w.heap.size := by
                rintro b (hb | ⟨T', ⟨l, x⟩, hx, hb⟩ | ⟨p, hp, hb⟩)
                · exact (r.ss b hb).1
                · exact (r.ob T' l x hx).lt b hb
                · exact (hh.is p hp).lt b hb
              refine (hM.call hlend w Sb _ _ hIs hpre hGot (by rw [p1]; simp [Apart]) (by rw [p1]; simp) hSblt (r.gl.mono (fun _ _ => rfl) (fun _ hb => .inl hb))).mono ?_
              rintro e' w' ⟨os, rs, outs, S', rfl, i1, i2, hpost, go1, go2, ap, apS, iob, hSS', hS'S, hos, htape, hout, hsz, hfr⟩
              have hos0 : os = [] := by
                rw [p2] at i1
                cases os with
                | nil => rfl
                | cons _ _ => exact i1.elim
              subst hos0
              rw [p1, p2, p3] at *
              simp only [AKs.ps, AKs.width, List.nil_append] at ap apS iob hfr
              have hfr' : ∀ b, b < w.heap.size → w'.heap[b]? = w.heap[b]? := fun b hb => hfr b hb (by simp)
              obtain ⟨ρ', q1, q2, _⟩ := r.results hU hTU hT8 hd i2 (AKs.got_any c2 go2) c3 ap (fun p hp g hg => (iob p hp g hg).resolve_right (by simp)) hsz hos htape hout hfr'
              have hk := (AKs.all_iff.1 hK) rs i2
              have hpo := hpost
              simp only [cat] at hpo
              rw [hpo.1] at hk
              exact ⟨_, _, _, h, E, ρ', S, rfl, ⟨hx, q1, hh.step r q1⟩, hk hpo.2, results_fit i2 c3 hU hTU⟩
            | [], hav => exact hav.elim
        · exact hrun.elim
      · exact hrun.elim
    · exact hrun.elim

end
end Go.Ax

/-
  AxB3: calls by which lists come back that lie aside; calls that mark them.
-/
namespace Go.Ax

/-- WHAT A CONTRACT SAYS BY WHICH LISTS COME BACK THAT LIE ASIDE. -/
structure MeetsF (P : Program) (ity : Nat) (f : FuncId) (F : FB) : Prop where
  there : ∃ fn c, P.funcs[f]? = some fn ∧ fn.body = some c ∧ (fn.name == "runtime.NumGoroutine") = false
  call : ∀ (w : World) (Sb : Nat → Prop) (ds : List AV) (args : List Value), AKs.Is F.args ds → F.pre ds → AKs.Got Sb w 0 F.args ds args → (∀ b, Sb b → b < w.heap.size) → Gl P w Sb →
    Calls P f args.toArray w fun e w' => ∃ (rs : List AV) (outs : List Value) (h : HH), e = .returned (packV outs) ∧ AKs.Is F.outs rs ∧ F.post ds rs h ∧ AKs.Got Sb w' 0 F.outs rs outs ∧ Apart (AKs.ps w' F.outs outs 0) ∧
      (∀ p ∈ AKs.ps w' F.outs outs 0, ∀ g, blk p.2 = some g → w.heap.size ≤ g) ∧ (∀ p ∈ h, hidIs ity w' p) ∧ (h.Pairwise fun p q => apart2 p.1 q.1) ∧
      (∀ p ∈ h, ∀ g, blk p.1 = some g → w.heap.size ≤ g ∧ ∀ q ∈ AKs.ps w' F.outs outs 0, blk q.2 ≠ some g) ∧
      w'.os = w.os ∧ w'.tape = w.tape ∧ w'.output = w.output ∧ w.heap.size ≤ w'.heap.size ∧ ∀ b, b < w.heap.size → w'.heap[b]? = w.heap[b]?

/-- What marking a list does. -/
structure Mark1 (P : Program) (ity : Nat) (f : FuncId) : Prop where
  there : ∃ fn c, P.funcs[f]? = some fn ∧ fn.body = some c ∧ (fn.name == "runtime.NumGoroutine") = false
  call : ∀ (w : World) (S : Nat → Prop) (v : Value) (l : List Int) (k : Int) (c : List Value), w.ownsRow 0 ity 1 v l.length c → rowCells (fun _ => False) w .int l c → (∀ g, blk v = some g → ¬ S g) → (∀ b, S b → b < w.heap.size) → Gl P w S → 0 ≤ k → k ≤ 1000000000 → (l.length : Int) ≤ 1000000000 →
    Calls P f #[v, .int .i64 k] w fun e w' => e = .returned (.int .i64 (k + (l.length : Int))) ∧ hidIs ity w' (v, markL k l.length) ∧ w'.os = w.os ∧ w'.tape = w.tape ∧ w'.output = w.output ∧ w.heap.size ≤ w'.heap.size ∧
      ∀ b, b < w.heap.size → blk v ≠ some b → w'.heap[b]? = w.heap[b]?

/-- What marking entries and their lists does. -/
structure MarkC (P : Program) (ity ety : Nat) (f : FuncId) : Prop where
  there : ∃ fn c, P.funcs[f]? = some fn ∧ fn.body = some c ∧ (fn.name == "runtime.NumGoroutine") = false
  call : ∀ (w : World) (S : Nat → Prop) (v : Value) (e : List E3) (k : Int) (c : List Value), w.ownsRow 0 ety 2 v (nvs e).length c → rowCells S w .ev (nvs e) c → (∀ p ∈ vls e, hidIs ity w p) → ((vls e).Pairwise fun p q => apart2 p.1 q.1) → (∀ p ∈ vls e, apart2 v p.1) →
    (∀ g, blk v = some g → ¬ S g) → (∀ p ∈ vls e, ∀ g, blk p.1 = some g → ¬ S g) → (∀ b, S b → b < w.heap.size) → Gl P w S → 0 ≤ k → endE k e ≤ 1000000000 →
    Calls P f #[v, .int .i64 k] w fun en w' => en = .returned (.int .i64 (endE k e)) ∧ (∃ d, w'.ownsRow 0 ety 2 v (nvs (markE k e)).length d ∧ rowCells S w' .ev (nvs (markE k e)) d) ∧ (∀ p ∈ vls (markE k e), hidIs ity w' p) ∧
      w'.os = w.os ∧ w'.tape = w.tape ∧ w'.output = w.output ∧ w.heap.size ≤ w'.heap.size ∧ ∀ b, b < w.heap.size → blk v ≠ some b → (∀ p ∈ vls e, blk p.1 ≠ some b) → w'.heap[b]? = w.heap[b]?

theorem markE_vals : ∀ (k : Int) (e : List E3), (vls (markE k e)).map (·.1) = (vls e).map (·.1)
  | _, [] => rfl
  | k, x :: r => by
    have := markE_vals (k + 1 + (x.2.2.length : Int)) r
    simp only [markE, vls, List.map_cons, List.map_map] at this ⊢
    rw [this]

section
variable {E0 E : Env} {ity : Nat} {ρ ρ' : Nat → Value} {S S' : Nat → Prop} {s s' : St} {h h' : HH} {a a' : Act} {w w' : World} {U : Nat → Prop} {d : Option Nat} {T : Nat}

theorem fam_ok {P : Program} {f : FuncId} {F : FB} (hM : MeetsF P ity f F) : BFok P ity f (famBF F) where
  there := hM.there
  call := by
    intro E0 E ρ S s h a w U d T avs cvs K hP hB hU hTU hT8 hd hav hrun
    subst hP
    obtain ⟨hx, r, hh⟩ := hB
    simp only [famBF] at hrun
    split at hrun
    · rename_i ds hds
      cases hc : (F.args.all AK.rd && F.outs.all AK.loose && Nat.ble (AKs.width F.outs) 16) with
      | false => rw [hc] at hrun; exact hrun.elim
      | true =>
        rw [hc] at hrun
        simp only [cond_true] at hrun
        simp only [Bool.and_eq_true, Nat.ble_eq] at hc
        obtain ⟨⟨c1, c2⟩, c3⟩ := hc
        obtain ⟨hpre, hK⟩ := hrun
        let Sb : Nat → Prop := fun b => S b ∨ ∃ T x, s.st.ob T = some x ∧ blk (ρ T) = some b
        obtain ⟨d1, d2, d3⟩ := AKs.data_ret hds
        obtain ⟨g1, g2, _, _⟩ := AKs.got (Sb := Sb) (base := 0) r (fun b hb => .inl hb) (cs := cvs) 0 hav d1 (fun t ht x hx b hb => .inr ⟨t, x, hx, hb⟩) (fun _ _ _ _ => Nat.zero_le _)
        have hSblt : ∀ b, Sb b → b < w.heap.size := by
          rintro b (hb | ⟨T', ⟨l, x⟩, hx, hb⟩)
          · exact (r.ss b hb).1
          · exact (r.ob T' l x hx).lt b hb
        refine (hM.call w Sb ds cvs g1 hpre g2 hSblt (r.gl.mono (fun _ _ => rfl) (fun _ hb => .inl hb))).mono ?_
        rintro e w' ⟨rs, outs, hn, rfl, i1, hpost, go, hap, hnew, hn1, hn2, hn3, hos, htape, hout, hsz, hfr⟩
        obtain ⟨ρ', q1, q2, q3⟩ := r.results hU hTU hT8 hd i1 (AKs.got_any c2 go) c3 hap hnew hsz hos htape hout hfr
        obtain ⟨E2, x1, x2, x3, x4, x5⟩ := q1.rebase hx (s2 := s.put d (resVal (AKs.res s.st.lv F.outs rs T).1) (AKs.res s.st.lv F.outs rs T).2) (w2 := w') rfl q1.tm q1.ob (fun T' x hx => ⟨x, hx⟩) (Nat.le_refl _) rfl rfl rfl (fun _ _ => rfl) (fun _ _ _ => rfl)
        have hh' := hh.step r q1
        refine ⟨_, _, _, cat h hn, E2, ρ', S, rfl, ⟨x1, x5, ⟨fun p hp => ?_, ?_, fun p hp g hg => ?_⟩⟩, (AKs.all_iff.1 hK) rs i1 hn hpost, results_fit i1 c3 hU hTU⟩
        · rw [cat_eq, List.mem_append] at hp
          exact hp.elim (hh'.is p) (hn1 p)
        · rw [cat_eq, List.pairwise_append]
          refine ⟨hh.ap, hn2, fun p hp q hq g hg hg' => ?_⟩
          have h1 := (hh.is p hp).lt g hg
          have h2 := (hn3 q hq g hg').1
          omega
        · rw [cat_eq, List.mem_append] at hp
          rcases hp with hp | hp
          · exact hh'.rebase q1 x2 x3 x4 (fun T' x hx => ⟨x, hx⟩) (Nat.le_refl _) p hp g hg
          · obtain ⟨h1, h2⟩ := hn3 p hp g hg
            refine ⟨by rw [x2]; exact (hn1 p hp).lt g hg, fun hS => ?_, fun hio => ?_, .inl (Nat.le_trans hx.size (Nat.le_trans r.fr.size h1))⟩
            · rw [x3] at hS
              have := (r.ss g hS).1; omega
            · obtain ⟨T', x, hT', hb⟩ := x4 g hio
              rcases q3 T' x hT' g hb with q | ⟨q, hq, hqb⟩
              · omega
              · exact h2 q hq hqb
    · exact hrun.elim

/-- The world has changed in lists that lie aside, and in one array. -/
theorem RepB.shift (hB : RepB E0 ity E ρ S s h a w) {s2 : St} (hn : s2.n = s.n) (htm : s2.tm = s.tm) (sub : ∀ T x, s2.st.ob T = some x → ∃ x', s.st.ob T = some x')
    {h2 : HH} (hv : h2.map (·.1) = h.map (·.1)) {C : Nat → Prop} (hC : ∀ b, C b → (∃ p ∈ h, blk p.1 = some b) ∨ ∃ T x, s.st.ob T = some x ∧ blk (ρ T) = some b)
    (hsz : w.heap.size ≤ w'.heap.size) (hos : w'.os = w.os) (htape : w'.tape = w.tape) (hout : w'.output = w.output) (hfr : ∀ b, b < w.heap.size → ¬ C b → w'.heap[b]? = w.heap[b]?)
    (ob : ∀ T l o, s2.st.ob T = some (l, o) → (s.st.ob T = some (l, o) ∧ ∀ g, blk (ρ T) = some g → ¬ C g) ∨ repO ρ S w' T o) (his : ∀ p ∈ h2, (p ∈ h ∧ ∀ g, blk p.1 = some g → ¬ C g) ∨ hidIs ity w' p) :
    ∃ E2, RepB E0 ity E2 ρ S s2 h2 a w' := by
  obtain ⟨hx, r, hh⟩ := hB
  have hCS : ∀ b, C b → ¬ S b := fun b hc hS => by
    rcases hC b hc with ⟨p, hp, hg⟩ | ⟨T, x, hT, hg⟩
    · exact (hh.notS r hp hg).1 hS
    · exact (r.ss b hS).2 T x hT hg
  have hsame : Same S w w' := ⟨fun b hb => hfr b (r.ss b hb).1 (fun hc => hCS b hc hb)⟩
  obtain ⟨E2, x1, x2, x3, x4, x5⟩ := r.rebase hx (s2 := s2) (w2 := w') hn (fun t => by rw [htm]; exact (r.tm t).mono hsame (fun _ h => h) (fun _ _ => rfl))
    (fun T l o ho => by
      rcases ob T l o ho with ⟨h1, h2⟩ | h1
      · exact (r.ob T l o h1).mono hsame (fun _ h => h) rfl (fun g hg => hfr g ((r.ob T l o h1).lt g hg) (h2 g hg)) (fun _ _ => rfl)
      · exact h1)
    sub hsz hos htape hout (fun b hb => hsame.block b hb) (fun b hb hio => by
      refine hfr b (Nat.lt_of_lt_of_le hb (Nat.le_trans hx.size r.fr.size)) fun hc => ?_
      rcases hC b hc with ⟨p, hp, hg⟩ | ⟨T, x, hT, hg⟩
      · rcases (hh.fr p hp b hg).2.2.2 with q | q
        · omega
        · exact hio q
      · rcases hx.ioS r hT hg with q | q
        · exact hio q
        · omega)
  have hmem : ∀ p ∈ h2, ∃ q ∈ h, q.1 = p.1 := fun p hp => by
    have : p.1 ∈ h.map (·.1) := hv ▸ List.mem_map_of_mem hp
    obtain ⟨q, hq, e⟩ := List.mem_map.1 this
    exact ⟨q, hq, e⟩
  refine ⟨E2, x1, x5, fun p hp => ?_, ?_, fun p hp g hg => ?_⟩
  · rcases his p hp with ⟨h1, h2⟩ | h1
    · exact (hh.is p h1).mono fun g hg => hfr g ((hh.is p h1).lt g hg) (h2 g hg)
    · exact h1
  · have h1 : (h.map (·.1)).Pairwise apart2 := List.pairwise_map.2 hh.ap
    rw [← hv] at h1
    exact List.pairwise_map.1 h1
  · obtain ⟨q, hq, e⟩ := hmem p hp
    exact hh.rebase r x2 x3 x4 sub hsz q hq g (by rw [e]; exact hg)

theorem RepB.put (hB : RepB E0 ity E ρ S s h a w) (hd : ∀ x, d = some x → x < s.n) {v : AV} {cv : Value} (hv : repA ρ S w v cv) : RepB E0 ity E ρ S (s.put d v []) h (a.put d cv) w :=
  ⟨hB.ext, hB.rep.pure hd hv, hB.hid⟩

theorem mark1_ok {P : Program} {f : FuncId} (hM : Mark1 P ity f) : BFok P ity f mark1BF where
  there := hM.there
  call := by
    intro E0 E ρ S s h a w U d T avs cvs K hP hB hU hTU hT8 hd hav hrun
    subst hP
    simp only [mark1BF] at hrun
    split at hrun
    · rename_i v k
      obtain ⟨l, h1, h2, he, k0, k1, k2, hK⟩ := hrun
      have he : h = cat h1 ((v, l) :: h2) := he
      rw [cat_eq] at he
      match cvs, hav with
      | [cv, ci], hav =>
        obtain ⟨rfl, _⟩ : cv = v ∧ _ := hav.1
        obtain rfl : ci = .int .i64 k := hav.2.1
        have hmem : (cv, l) ∈ h := by rw [he]; simp
        obtain ⟨c, o1, o2⟩ := hB.hid.is _ hmem
        refine (hM.call w S cv l k c o1 o2 (fun g hg => (hB.hid.notS hB.rep hmem hg).1) (fun b hb => (hB.rep.ss b hb).1) hB.rep.gl k0 k1 k2).mono ?_
        rintro e w' ⟨rfl, hid, hos, htape, hout, hsz, hfr⟩
        have hpw : h.Pairwise fun p q => apart2 p.1 q.1 := hB.hid.ap
        rw [he, List.pairwise_append, List.pairwise_cons] at hpw
        obtain ⟨E2, hB2⟩ := hB.shift (s2 := s) rfl rfl (fun T x hx => ⟨x, hx⟩) (h2 := cat h1 ((cv, markL k l.length) :: h2)) (by rw [he, cat_eq]; simp) (C := fun b => blk cv = some b) (fun b hb => .inl ⟨_, hmem, hb⟩)
          hsz hos htape hout (fun b hb hc => hfr b hb hc) (fun T l' o ho => .inl ⟨ho, fun g hg hc => (hB.hid.notS hB.rep hmem hc).2 T _ ho hg⟩) (fun p hp => by
            rw [cat_eq, List.mem_append, List.mem_cons] at hp
            rcases hp with hp | rfl | hp
            · exact .inl ⟨by rw [he]; simp [hp], fun g hg hc => hpw.2.2 p hp (cv, l) (by simp) g hg hc⟩
            · exact .inr hid
            · exact .inl ⟨by rw [he]; simp [hp], fun g hg hc => hpw.2.1.1 p hp g hc hg⟩)
        refine ⟨_, _, _, _, E2, ρ, S, rfl, hB2.put hd (v := .sc (.int .i64 (k + (l.length : Int)))) rfl, hK, by simp [AV.tags, SV.tags], by simp⟩
      | [], hav => exact hav.elim
      | [_], hav => exact hav.2.elim
      | _ :: _ :: _ :: _, hav => exact hav.2.2.elim
    · exact hrun.elim

theorem mark_ok {P : Program} {f : FuncId} {ety : Nat} (hM : MarkC P ity ety f) : BFok P ity f (markBF ety) where
  there := hM.there
  call := by
    intro E0 E ρ S s h a w U d T avs cvs K hP hB hU hTU hT8 hd hav hrun
    subst hP
    simp only [markBF] at hrun
    split at hrun
    · rename_i A k
      split at hrun
      · rename_i l ety' xs hob
        cases hc : (wrt s.st l && Nat.beq ety' ety) with
        | false => rw [hc] at hrun; exact hrun.elim
        | true =>
          rw [hc] at hrun
          simp only [cond_true] at hrun
          simp only [Bool.and_eq_true, beq_iff] at hc
          obtain ⟨c1, rfl⟩ := hc
          obtain ⟨e, h1, h2, hxs, he, k0, k1, hK⟩ := hrun
          have hxs : xs = nvs e := hxs
          subst hxs
          have he : h = cat h1 (cat (vls e) h2) := he
          rw [cat_eq, cat_eq] at he
          match cvs, hav with
          | [cv, ci], hav =>
            have hcv : cv = ρ A := hav.1.1
            subst hcv
            obtain rfl : ci = .int .i64 k := hav.2.1
            have hmem : ∀ p ∈ vls e, p ∈ h := fun p hp => by rw [he]; simp [hp]
            obtain ⟨c, o1, o2⟩ := hB.rep.ob A l _ hob
            have hpw : h.Pairwise fun p q => apart2 p.1 q.1 := hB.hid.ap
            rw [he, List.pairwise_append, List.pairwise_append] at hpw
            obtain ⟨_, ⟨hp2, _, hp4⟩, hp5⟩ := hpw
            refine (hM.call w S (ρ A) e k c o1 o2 (fun p hp => hB.hid.is p (hmem p hp)) hp2 (fun p hp g hg hg' => (hB.hid.notS hB.rep (hmem p hp) hg').2 A _ hob hg) (fun g hg hS => (hB.rep.ss g hS).2 A _ hob hg)
              (fun p hp g hg => (hB.hid.notS hB.rep (hmem p hp) hg).1) (fun b hb => (hB.rep.ss b hb).1) hB.rep.gl k0 k1).mono ?_
            rintro en w' ⟨rfl, ⟨c', o3, o4⟩, hid, hos, htape, hout, hsz, hfr⟩
            have hvals := markE_vals k e
            let s2 : St := { tm := s.tm, st := { lv := s.st.lv, ob := over [(A, some (l, .arr ety' .ev (nvs (markE k e))))] s.st.ob }, ep := s.ep, n := s.n }
            have hov : ∀ T x, s2.st.ob T = some x → (T = A ∧ x = (l, .arr ety' .ev (nvs (markE k e)))) ∨ (T ≠ A ∧ s.st.ob T = some x) := fun T x hx => by
              simp only [s2, over_cons, over_nil] at hx
              split at hx
              · rename_i q; exact .inl ⟨q, (Option.some.inj hx).symm⟩
              · rename_i q; exact .inr ⟨q, hx⟩
            obtain ⟨E2, hB2⟩ := hB.shift (s2 := s2) rfl rfl (fun T x hx => by
                rcases hov T x hx with ⟨rfl, _⟩ | ⟨_, q⟩
                · exact ⟨_, hob⟩
                · exact ⟨x, q⟩)
              (h2 := cat h1 (cat (vls (markE k e)) h2)) (by rw [he, cat_eq, cat_eq]; simp only [List.map_append, hvals]) (C := fun b => blk (ρ A) = some b ∨ ∃ p ∈ vls e, blk p.1 = some b)
              (fun b hb => by
                rcases hb with hb | ⟨p, hp, hb⟩
                · exact .inr ⟨A, _, hob, hb⟩
                · exact .inl ⟨p, hmem p hp, hb⟩)
              hsz hos htape hout (fun b hb hc => hfr b hb (fun q => hc (.inl q)) (fun p hp q => hc (.inr ⟨p, hp, q⟩)))
              (fun T l' o ho => by
                rcases hov T _ ho with ⟨rfl, q⟩ | ⟨hne, q⟩
                · simp only [Prod.mk.injEq] at q
                  obtain ⟨_, rfl⟩ := q
                  exact .inr ⟨c', o3, o4⟩
                · refine .inl ⟨q, fun g hg hc => ?_⟩
                  rcases hc with hc | ⟨p, hp, hc⟩
                  · exact hB.rep.dj T A _ _ q hob hne g hg hc
                  · exact (hB.hid.notS hB.rep (hmem p hp) hc).2 T _ q hg)
              (fun p hp => by
                rw [cat_eq, cat_eq, List.mem_append, List.mem_append] at hp
                rcases hp with hp | hp | hp
                · have hph : p ∈ h := by rw [he]; simp [hp]
                  refine .inl ⟨hph, fun g hg hc => ?_⟩
                  rcases hc with hc | ⟨q, hq, hc⟩
                  · exact (hB.hid.notS hB.rep hph hg).2 A _ hob hc
                  · exact hp5 p hp q (List.mem_append_left _ hq) g hg hc
                · exact .inr (hid p hp)
                · have hph : p ∈ h := by rw [he]; simp [hp]
                  refine .inl ⟨hph, fun g hg hc => ?_⟩
                  rcases hc with hc | ⟨q, hq, hc⟩
                  · exact (hB.hid.notS hB.rep hph hg).2 A _ hob hc
                  · exact hp4 q hq p hp g hc hg)
            refine ⟨_, _, _, _, E2, ρ, S, rfl, hB2.put (s := s2) hd (v := .sc (.int .i64 (endE k e))) rfl, hK, by simp [AV.tags, SV.tags], fun t x hx => ?_⟩
            simp only [List.mem_singleton, Prod.mk.injEq] at hx
            obtain ⟨rfl, rfl⟩ := hx
            refine ⟨.inl (hU.lv t _ hob), fun l' o ho u hu => ?_, fun l' o ho => ?_⟩
            · simp only [Option.some.injEq, Prod.mk.injEq] at ho
              obtain ⟨_, rfl⟩ := ho
              simp [Obj.tags] at hu
            · rw [hob] at ho
              simp only [Option.some.injEq, Prod.mk.injEq] at ho
              obtain ⟨rfl, _⟩ := ho
              simpa [wrt] using c1
          | [], hav => exact hav.elim
          | [_], hav => exact hav.2.elim
          | _ :: _ :: _ :: _, hav => exact hav.2.2.elim
      · exact hrun.elim
    · exact hrun.elim

end
end Go.Ax

/-
  AxB4: the walk with lists that lie aside: regions, code.
-/
namespace Go.Ax

section
variable {E0 : Env} {B : BX} {ops : Array Oper} {K : St → HH → Prop} {Q : Exit → Act → World → Prop}

/-- What must hold of the tables. -/
structure BB (P : Program) (B : BX) : Prop where
  base : Base P B.cx
  sp : ∀ d f R, B.sp d = some (.call f R) → BFok P B.ity f R

def GoesR (E0 : Env) (ity : Nat) (s0 : St) (ms : Nat → Prop) (K : St → HH → Prop) (Q : Exit → Act → World → Prop) : Prop :=
  ∀ s' h' a' w' E' ρ' S', RepB E0 ity E' ρ' S' s' h' a' w' → Men (Upto s'.ep) s' → Keep s0 s' ms → K s' h' → Q .normal a' w'

theorem hid_tags_s {T : Nat} {u : Value} {v : SV} {t : Nat} (h : t ∈ (v.hid T u).tags) : t ∈ v.tags := by
  cases v with
  | own t' =>
    simp only [SV.hid] at h
    cases hb : Nat.beq t' T with
    | true => rw [hb] at h; simp [SV.tags] at h
    | false => rw [hb] at h; exact h
  | _ => exact h

theorem hid_tags_l {T : Nat} {u : Value} : ∀ {l : List SV} {t : Nat}, t ∈ svsTags (hidL T u l) → t ∈ svsTags l
  | [], t, h => h
  | v :: l, t, h => by
    simp only [hidL, svsTags, cat_eq, List.mem_append] at h ⊢
    exact h.imp hid_tags_s hid_tags_l

theorem hid_tags_t {T : Nat} {u : Value} : ∀ {l : List (SV ⊕ List SV)} {t : Nat}, t ∈ tupTags (hidT T u l) → t ∈ tupTags l
  | [], t, h => h
  | .inl v :: l, t, h => by
    simp only [hidT, tupTags, cat_eq, List.mem_append] at h ⊢
    exact h.imp hid_tags_s hid_tags_t
  | .inr v :: l, t, h => by
    simp only [hidT, tupTags, cat_eq, List.mem_append] at h ⊢
    exact h.imp hid_tags_l hid_tags_t

theorem hid_tags {T : Nat} {u : Value} {v : AV} {t : Nat} (h : t ∈ (v.hid T u).tags) : t ∈ v.tags := by
  cases v with
  | sc v => exact hid_tags_s h
  | agg l => exact hid_tags_l h
  | tup l => exact hid_tags_t h

theorem hide_men {U : Nat → Prop} {s : St} {d T : Nat} {u : Value} (hU : Men U s) : Men U (hideSt s d T u) := by
  have hne : ∀ T' x, (hideSt s d T u).st.ob T' = some x → s.st.ob T' = some x := fun T' x hx => by
    simp only [hideSt, over_cons, over_nil] at hx
    split at hx
    · cases hx
    · exact hx
  refine ⟨fun t x hx => ?_, fun T' l o ho => hU.ob T' l o (hne T' _ ho), fun T' x hx => hU.lv T' x (hne T' x hx)⟩
  simp only [hideSt, upd] at hx
  by_cases ht : t = d
  · rw [beq_iff.2 ht, cond_true] at hx
    exact hU.tm d x (hid_tags hx)
  · rw [beq_ff.2 ht, cond_false] at hx
    exact hU.tm t x hx

/-- The tags behind a call of its own kind. -/
theorem fit_men {e : Nat} {D : Nat → Prop} {s : St} {d : Nat} (hU : Men (Reg e D) s) (he : s.ep = e) (hd : d < 511) {v : AV} {ov : List (Nat × Option (Nat × Obj))}
    (hv : ∀ t ∈ v.tags, Reg e D t ∨ (tagBase s.ep (some d) ≤ t ∧ t < tagBase s.ep (some d) + 16))
    (ho : ∀ t x, (t, x) ∈ ov → (Reg e D t ∨ (tagBase s.ep (some d) ≤ t ∧ t < tagBase s.ep (some d) + 16)) ∧ (∀ l o, x = some (l, o) → ∀ u ∈ o.tags, Reg e D u ∨ (tagBase s.ep (some d) ≤ u ∧ u < tagBase s.ep (some d) + 16)) ∧ ∀ l o, s.st.ob t = some (l, o) → s.st.lv ≤ l) :
    Men (Reg e fun x => D x ∨ some d = some x) (s.put (some d) v ov) := by
  have hV : ∀ t, Reg e D t → Reg e (fun x => D x ∨ some d = some x) t := by
    rintro t (h | ⟨x, h1, h2⟩)
    · exact .inl h
    · exact .inr ⟨x, .inl h1, h2⟩
  have hT : ∀ t, (Reg e D t ∨ (tagBase s.ep (some d) ≤ t ∧ t < tagBase s.ep (some d) + 16)) → Reg e (fun x => D x ∨ some d = some x) t := by
    rintro t (h | ⟨h1, h2⟩)
    · exact hV t h
    · simp only [tagBase, he] at h1 h2
      exact .inr ⟨d, .inr rfl, hd, h1, h2⟩
  have hob : ∀ T x, (s.put (some d) v ov).st.ob T = some x → (T, some x) ∈ ov ∨ s.st.ob T = some x := fun T x hx => by
    by_cases hm : T ∈ ov.map (·.1)
    · exact .inl (over_mem hm hx)
    · exact .inr ((over_out (f := s.st.ob) hm).symm.trans hx)
  refine ⟨fun t x hx => ?_, fun T l o ho' u hu => ?_, fun T x hx => ?_⟩
  · simp only [St.put, upd] at hx
    by_cases ht : t = d
    · rw [beq_iff.2 ht, cond_true] at hx
      exact hT x (hv x hx)
    · rw [beq_ff.2 ht, cond_false] at hx
      exact hV x (hU.tm t x hx)
  · rcases hob T _ ho' with q | q
    · exact hT u ((ho T _ q).2.1 l o rfl u hu)
    · exact hV u (hU.ob T l o q u hu)
  · rcases hob T _ hx with q | q
    · exact hT T (ho T _ q).1
    · exact hV T (hU.lv T x q)

theorem fit_keep {U : Nat → Prop} {s : St} {d T : Nat} {ms : Nat → Prop} (hm : ms d) {v : AV} {ov : List (Nat × Option (Nat × Obj))}
    (ho : ∀ t x, (t, x) ∈ ov → (U t ∨ (T ≤ t ∧ t < T + 16)) ∧ (∀ l o, x = some (l, o) → ∀ u ∈ o.tags, U u ∨ (T ≤ u ∧ u < T + 16)) ∧ ∀ l o, s.st.ob t = some (l, o) → s.st.lv ≤ l) : Keep s (s.put (some d) v ov) ms := by
  refine ⟨fun t ht => tm_put (fun q => ht (by obtain rfl := Option.some.inj q; exact hm)), fun T' l ob hx hl => ?_, rfl, rfl, Nat.le_refl _⟩
  refine (over_out fun hk => ?_).trans hx
  obtain ⟨⟨T2, x⟩, hp, rfl⟩ := List.mem_map.1 hk
  have := (ho T2 x hp).2.2 l ob hx
  omega

theorem wpBL_sound (hb : BB E0.P B) {e : Nat} (h1e : 1 ≤ e) {s0 : St} {ms : Nat → Prop} (hG : GoesR E0 B.ity s0 ms K Q) : ∀ (l : List Oper) (D : Nat → Prop) (s : St) (h : HH) (a : Act) (w : World) (E : Env) (ρ : Nat → Value) (S : Nat → Prop),
    RepB E0 B.ity E ρ S s h a w → Men (Reg e D) s → s.ep = e → opsFit l = true → (dstsOf l).Nodup → (∀ d ∈ dstsOf l, d < 511 ∧ d < s.n ∧ ¬ D d ∧ ms d) → Keep s0 s ms → wpBL B ops K l s h → wpList E0.P ops Q l a w
  | [], D, s, h, a, w, E, ρ, S, hR, hU, he, _, _, _, hk, hw => hG s h a w E ρ S hR (he ▸ hU.weaken fun t ht => reg_upto ht) hk hw
  | o :: r, D, s, h, a, w, E, ρ, S, hR, hU, he, hf, hn, hd, hk, hw => by
    obtain ⟨hf1, hf2⟩ := opsFit_cons hf
    have hdo : ∀ x, o.dst = some x → x < 511 ∧ x < s.n ∧ ¬ D x ∧ ms x := fun x hx => hd x (mem_dstsOf.2 ⟨o, List.mem_cons_self .., hx⟩)
    have hn2 : (dstsOf r).Nodup ∧ ∀ x, o.dst = some x → x ∉ dstsOf r := by
      cases hx : o.dst with
      | none => rw [dstsOf, hx] at hn; exact ⟨hn, by simp⟩
      | some x =>
        rw [dstsOf, hx] at hn
        obtain ⟨n1, n2⟩ := List.nodup_cons.1 hn
        exact ⟨n2, fun y hy => by cases hy; exact n1⟩
    have hP := hR.ext.P
    have hbase : Base E.P B.cx := by rw [hP]; exact hb.base
    have hdr : ∀ d ∈ dstsOf r, d < 511 ∧ d < s.n ∧ ¬ (D d ∨ o.dst = some d) ∧ ms d := fun d hdr => by
      obtain ⟨o', ho', hx'⟩ := mem_dstsOf.1 hdr
      obtain ⟨q1, q2, q3, q4⟩ := hd d (mem_dstsOf.2 ⟨o', List.mem_cons_of_mem _ ho', hx'⟩)
      exact ⟨q1, q2, fun h => h.elim q3 (fun h => hn2.2 d h hdr), q4⟩
    have hd1 : ∀ x, o.dst = some x → (x < 511 ∧ ¬ D x) ∧ x < s.n := fun x hx => ⟨⟨(hdo x hx).1, (hdo x hx).2.2.1⟩, (hdo x hx).2.1⟩
    have hd2 : ∀ x, o.dst = some x → x < 511 ∧ ¬ D x := fun x hx => (hd1 x hx).1
    refine wpList_step fun K' hK' => ?_
    unfold wpBL at hw
    cases hg : guardOf ops o s with
    | none => rw [hg] at hw; exact hw.elim
    | some b =>
      rw [hg] at hw
      have hwant := guard_ok hR.rep hg
      cases b with
      | false =>
        rw [if_neg (by rw [hwant]; simp)]
        refine hK' _ _ (wpBL_sound hb h1e hG r (fun d => D d ∨ o.dst = some d) _ h _ w E ρ S (hR.put (fun x hx => (hd1 x hx).2) (v := .sc .gone) (cv := undef) rfl) (men_skip hU) he hf2 hn2.1 hdr (hk.trans (keep_put (cx := B.cx) (ops := ops) hbase hU he hf1 hd2 (v := .sc .gone) (ov := []) ?_ (fun x hx => (hdo x hx).2.2.2))) hw)
        unfold outG; rw [hg]; exact ⟨rfl, rfl⟩
      | true =>
        -- an operation of the plain kind, with what is behind it
        have plain : ∀ (G : AV → List (Nat × Option (Nat × Obj)) → Prop), (opX B.cx o s.ev s.st (tagBase s.ep o.dst)).run G →
            (∀ v ov ρ' S' a' w', RepB E0 B.ity E ρ' S' (s.put o.dst v ov) h a' w' → Men (Reg e fun d => D d ∨ o.dst = some d) (s.put o.dst v ov) → Keep s0 (s.put o.dst v ov) ms → G v ov → K' a' w') →
            if Region.wanted o (yielded ops a.tmps) then o.wp E0.P a w K' Q else K' (a.put o.dst undef) w := by
          intro G hG1 hG2
          obtain ⟨hok, hres⟩ := Out.run_iff.1 hG1
          have hok' : (outG B.cx ops o s).Ok := by unfold outG; rw [hg]; exact hok
          have := sim_outG (Q := Q) (K := K') hbase hR.rep hU he h1e hd1 hok' fun v ov ρ' S' a' w' hr hrep => by
            have hr' : (opX B.cx o s.ev s.st (tagBase s.ep o.dst)).Res v ov := by unfold outG at hr; rw [hg] at hr; exact hr
            exact hG2 v ov ρ' S' a' w' ⟨hR.ext, hrep, hR.hid.step hR.rep hrep⟩ (men_put hbase hU he hf1 (fun x hx => (hdo x hx).1) hr') (hk.trans (keep_put hbase hU he hf1 hd2 hr (fun x hx => (hdo x hx).2.2.2))) (hres v ov hr')
          rw [hP] at this
          exact this
        cases hsp : o.dst.bind B.sp with
        | none =>
          rw [hsp] at hw
          exact plain _ hw fun v ov ρ' S' a' w' h1 h2 h3 h4 => hK' _ _ (wpBL_sound hb h1e hG r _ _ h a' w' E ρ' S' h1 h2 he hf2 hn2.1 hdr h3 h4)
        | some sk =>
          rw [hsp] at hw
          cases sk with
          | hide =>
            refine plain _ hw fun v ov ρ' S' a' w' h1 h2 h3 h4 => hK' _ _ ?_
            unfold hideK at h4
            split at h4
            · rename_i d T rest hdst htags
              split at h4
              · rename_i l ety xs hob
                cases hc : (Nat.beq ety B.ity && Nat.ble s.st.lv l && Nat.ble 8192 T) with
                | false => rw [hc] at h4; exact h4.elim
                | true =>
                  rw [hc] at h4
                  simp only [cond_true] at h4
                  simp only [Bool.and_eq_true, beq_iff, Nat.ble_eq] at hc
                  obtain ⟨⟨rfl, c2⟩, _⟩ := hc
                  rw [hdst] at h1 h2 h3 hdr
                  obtain ⟨E2, hR2⟩ := h1.hide (d := d) (T := T) (l := l) (xs := xs) hob
                  refine wpBL_sound hb h1e hG r _ _ _ a' w' E2 ρ' S' hR2 (hide_men h2) he hf2 hn2.1 hdr (h3.trans ⟨fun t ht => ?_, fun T' l' o' ho' hl' => ?_, rfl, rfl, Nat.le_refl _⟩) (h4 (ρ' T))
                  · have htd : t ≠ d := fun q => ht (q ▸ (hdo d hdst).2.2.2)
                    simp only [hideSt, upd, beq_ff.2 htd, cond_false]
                  · simp only [hideSt, over_cons, over_nil]
                    rw [if_neg ?_]
                    · exact ho'
                    · rintro rfl
                      have hob' : (s.put (some d) v ov).st.ob T' = some (l, .arr B.ity .int xs) := hob
                      rw [hob'] at ho'
                      simp only [Option.some.injEq, Prod.mk.injEq] at ho'
                      obtain ⟨rfl, _⟩ := ho'
                      have : (s.put (some d) v ov).st.lv = s.st.lv := rfl
                      omega
              · exact h4.elim
            · exact h4.elim
          | call f R =>
            simp only at hw
            split at hw
            · rename_i c hop
              split at hw
              · rename_i g hcal
                cases hgf : Nat.beq g f with
                | false => rw [hgf] at hw; exact hw.elim
                | true =>
                  rw [hgf] at hw
                  simp only [cond_true] at hw
                  obtain rfl := beq_iff.1 hgf
                  rw [if_pos hwant]
                  obtain ⟨d, hdst, hspd⟩ : ∃ d, o.dst = some d ∧ B.sp d = some (.call g R) := by
                    cases hx : o.dst with
                    | none => rw [hx] at hsp; cases hsp
                    | some d => rw [hx] at hsp; exact ⟨d, rfl, hsp⟩
                  have hF := hb.sp d g R hspd
                  have hcall := hF.call (d := o.dst) (cvs := c.args.toList.map a.eval) hP hR hU (reg_fresh' he hd2) (by have := @tagBase_ge s.ep 0 o.dst; omega) (fun x hx => (hd1 x hx).2) (repAs_args hR.rep _) hw
                  obtain ⟨fn, cd, t1, t2, t3⟩ := hF.there
                  have hexec : (execOp a.eval o).run E0.P w = .ok (.enter g (c.args.toList.map a.eval).toArray) w := by
                    have hca : c.args.map a.eval = (c.args.toList.map a.eval).toArray := by
                      apply Array.ext'; simp
                    have hfv : a.eval (.func g) = .func (.func g) #[] #[] := rfl
                    simp only [execOp, hop, resolve, hcal, hfv, Deferred.ofValue, Sem.run_bind, Sem.run_pure, Result.andThen_ok, invoke, Array.empty_append, Array.append_empty, hca]
                    exact run_enter t1 t3 t2 _ _
                  unfold Oper.wp
                  rw [hexec, Oper.upon_enter]
                  refine hcall.mono ?_
                  rintro en w' ⟨cv, v, ov, h', E', ρ', S', rfl, hR', hK2, hv, ho⟩
                  simp only [AV.force_eq, forceO_eq] at hK2
                  refine hK' _ _ (wpBL_sound hb h1e hG r (fun x => D x ∨ o.dst = some x) _ h' _ w' E' ρ' S' hR' ?_ he hf2 hn2.1 hdr ?_ hK2)
                  · rw [hdst] at hv ho ⊢
                    exact fit_men hU he (hdo d hdst).1 hv ho
                  · rw [hdst] at ho ⊢
                    exact hk.trans (fit_keep (hdo d hdst).2.2.2 ho)
              · exact hw.elim
            · exact hw.elim

/-- A REGION. -/
theorem wpBR_sound (hb : BB E0.P B) {id : Nat} {draw : Bool} {s : St} {hh : HH} {a : Act} {w : World} {E : Env} {ρ : Nat → Value} {S : Nat → Prop} (hR : RepB E0 B.ity E ρ S s hh a w) (hU : Men (Upto s.ep) s)
    (hw : wpBR B ops draw K s hh) {ms : Nat → Prop} (hms : ∀ d ∈ dstsOf ops.toList, ms d) (hG : GoesR E0 B.ity s ms K Q) : (Code.region id ops draw).wp E0.P Q a w := by
  unfold wpBR at hw
  cases hc : (nodupB (dstsOf ops.toList) && allLt s.n (dstsOf ops.toList) && allLt 511 (dstsOf ops.toList) && opsFit ops.toList && Bool.not draw) with
  | false => rw [hc] at hw; exact hw.elim
  | true =>
    rw [hc] at hw
    simp only [cond_true] at hw
    simp only [Bool.and_eq_true, nodupB_iff, allLt_iff, Bool.not_eq_true'] at hc
    obtain ⟨⟨⟨⟨c1, c2⟩, c3⟩, c4⟩, rfl⟩ := hc
    have h := hR.rep
    have ht : Rep E ρ S s.tick a w := ⟨h.df, h.sz, h.tm, h.ob, h.dj, h.ss, h.s0, h.sn, h.ow, h.io, h.r0, h.fr⟩
    have hUt : ∀ D, Men (Reg (s.ep + 1) D) s.tick := fun D => ⟨fun t x hx => .inl (hU.tm t x hx), fun T l ob hx x ht => .inl (hU.ob T l ob hx x ht), fun T x hx => .inl (hU.lv T x hx)⟩
    have hk : Keep s s.tick ms := ⟨fun _ _ => rfl, fun _ _ _ hx _ => hx, rfl, rfl, Nat.le_succ _⟩
    refine wp_region_list ?_
    exact wpBL_sound hb (e := s.ep + 1) (by omega) hG ops.toList (fun _ => False) s.tick hh a w E ρ S ⟨hR.ext, ht, hR.hid⟩ (hUt _) rfl c4 c1 (fun d hd => ⟨c3 d hd, c2 d hd, fun h => h, hms d hd⟩) hk hw

end
end Go.Ax

/-
  AxB5: the walk with lists that lie aside: a piece of code means what its condition says.
-/
namespace Go.Ax

section
variable {E0 : Env} {B : BX} {ann : Nat → Option LAnn}

/-- What stands behind a piece of code. -/
def GoesB (E0 : Env) (ity : Nat) (s0 : St) (ms : Nat → Prop) (Qa : Ex → St → HH → Prop) (Qc : Exit → Act → World → Prop) : Prop :=
  ∀ e s' h' a' w' E' ρ' S', RepB E0 ity E' ρ' S' s' h' a' w' → Men (Upto s'.ep) s' → Keep s0 s' ms → Qa e s' h' → Qc e.go a' w'

theorem RepB.relv {ity : Nat} {E : Env} {ρ : Nat → Value} {S : Nat → Prop} {s : St} {h : HH} {a : Act} {w : World} (hR : RepB E0 ity E ρ S s h a w) (lv : Nat) : RepB E0 ity E ρ S (s.relv lv) h a w :=
  ⟨hR.ext, hR.rep.relv lv, hR.hid⟩

theorem wpB_sound (hb : BB E0.P B) : ∀ (c : Code) (Qa : Ex → St → HH → Prop) (Qc : Exit → Act → World → Prop) (s : St) (h : HH) (a : Act) (w : World) (E : Env) (ρ : Nat → Value) (S : Nat → Prop),
    RepB E0 B.ity E ρ S s h a w → Men (Upto s.ep) s → s.st.lv ≤ s.ep → wpB B ann c Qa s h → GoesB E0 B.ity s (fun t => t ∈ mods c) Qa Qc → c.wp E0.P Qc a w := by
  intro c
  induction c with
  | skip => intro Qa Qc s h a w E ρ S hR hU hl hw hG; exact wp_skip (hG .normal s h a w E ρ S hR hU (Keep.refl _ _) hw)
  | region id ops draw =>
    intro Qa Qc s h a w E ρ S hR hU hl hw hG
    exact wpBR_sound hb hR hU hw (fun d hd => hd) fun s' h' a' w' E' ρ' S' h1 h2 h3 h4 => hG .normal s' h' a' w' E' ρ' S' h1 h2 h3 h4
  | seq x y ihx ihy =>
    intro Qa Qc s h a w E ρ S hR hU hl hw hG
    refine wp_seq (ihx _ _ s h a w E ρ S hR hU hl hw ?_)
    intro e s' h' a' w' E' ρ' S' h1 h2 h3 h4
    have hk : Keep s s' (fun t => t ∈ mods (.seq x y)) := h3.mono fun t ht => by simp only [mods, cat_eq, List.mem_append]; exact .inl ht
    cases e with
    | normal =>
      refine ihy Qa Qc s' h' a' w' E' ρ' S' h1 h2 (by rw [h3.lv]; exact Nat.le_trans hl h3.ep) h4 ?_
      intro e2 s2 hh2 a2 w2 E2 ρ2 S2 g1 g2 g3 g4
      exact hG e2 s2 hh2 a2 w2 E2 ρ2 S2 g1 g2 (hk.trans (g3.mono fun t ht => by simp only [mods, cat_eq, List.mem_append]; exact .inr ht)) g4
    | exit i => exact hG (.exit i) s' h' a' w' E' ρ' S' h1 h2 hk h4
    | ret => exact hG .ret s' h' a' w' E' ρ' S' h1 h2 hk h4
  | cond x y z ihy ihz =>
    intro Qa Qc s h a w E ρ S hR hU hl hw hG
    have hev := hR.rep.ev x
    simp only [wpB] at hw
    split at hw
    · rename_i hx
      rw [hx] at hev
      exact wp_cond_true (repA_bool hev) (ihy Qa Qc s h a w E ρ S hR hU hl hw fun e s' h' a' w' E' ρ' S' h1 h2 h3 h4 => hG e s' h' a' w' E' ρ' S' h1 h2 (h3.mono fun t ht => by simp only [mods, cat_eq, List.mem_append]; exact .inl ht) h4)
    · rename_i hx
      rw [hx] at hev
      exact wp_cond_false (repA_bool hev) (ihz Qa Qc s h a w E ρ S hR hU hl hw fun e s' h' a' w' E' ρ' S' h1 h2 h3 h4 => hG e s' h' a' w' E' ρ' S' h1 h2 (h3.mono fun t ht => by simp only [mods, cat_eq, List.mem_append]; exact .inr ht) h4)
    · exact hw.elim
  | block id x ih =>
    intro Qa Qc s h a w E ρ S hR hU hl hw hG
    refine wp_block (ih _ _ s h a w E ρ S hR hU hl hw ?_)
    intro e s' h' a' w' E' ρ' S' h1 h2 h3 h4
    cases e with
    | normal => exact hG .normal s' h' a' w' E' ρ' S' h1 h2 h3 h4
    | ret => exact hG .ret s' h' a' w' E' ρ' S' h1 h2 h3 h4
    | exit i =>
      simp only at h4
      show Exit.inBlock id Qc (.exit i) a' w'
      simp only [Exit.inBlock]
      by_cases hi : i = id
      · rw [beq_iff.2 hi, cond_true] at h4
        rw [if_pos hi]
        exact hG .normal s' h' a' w' E' ρ' S' h1 h2 h3 h4
      · rw [beq_ff.2 hi, cond_false] at h4
        rw [if_neg hi]
        exact hG (.exit i) s' h' a' w' E' ρ' S' h1 h2 h3 h4
  | exit id => intro Qa Qc s h a w E ρ S hR hU hl hw hG; exact wp_exit (hG (.exit id) s h a w E ρ S hR hU (Keep.refl _ _) hw)
  | ret => intro Qa Qc s h a w E ρ S hR hU hl hw hG; exact wp_ret (hG .ret s h a w E ρ S hR hU (Keep.refl _ _) hw)
  | loop x ih =>
    intro Qa Qc s h a w E ρ S hR hU hl hw hG
    simp only [wpB] at hw
    split at hw
    · exact hw.elim
    · rename_i l hann
      split at hw
      · exact hw.elim
      · rename_i ds hget
        cases hc : (LAnn.tagsOK s l && nodupB (annSlots l) && subB (annSlots l) (mods x) && disj (annBoxes l) (cat (annSlots l) (mods x)) && Nat.ble (LAnn.kinds l).length 8000 && allLt s.n (annSlots l)) with
        | false => rw [hc] at hw; exact hw.elim
        | true =>
          rw [hc] at hw
          simp only [cond_true] at hw
          simp only [Bool.and_eq_true, subB_iff, disj_iff, Nat.ble_eq] at hc
          obtain ⟨⟨⟨⟨⟨c1, _⟩, c3⟩, c4⟩, c5⟩, _⟩ := hc
          obtain ⟨I, m, hI, hround⟩ := hw
          have hround := fun h1 => BKs.all_iff.1 (hround h1)
          have hboxm : ∀ t ∈ annBoxes l, t ∉ mods x := fun t ht hm => c4 t ht (by rw [cat_eq, List.mem_append]; exact .inr hm)
          have hst0 : ∀ T lv o, stay s l T = some (lv, o) → s.st.ob T = some (lv, o) ∧ T ∉ LAnn.ownTags s l ∧ T ∉ LAnn.slTags s l := fun T lv o hx => by
            obtain ⟨h1, h2, h3, _⟩ := stay_spec hx
            exact ⟨h3, h1, h2⟩
          have hfx0 : ∀ s1 : St, (∀ t ∈ annBoxes l, s.tm t = s1.tm t) → ∀ t ∈ LAnn.fxTags s1 l, Upto s.ep t := fun s1 hb t ht => by
            obtain ⟨u, hu⟩ := fx_slots hb t ht
            exact hU.tm u t hu
          obtain ⟨hIs0, ρ0, S0, hrep0⟩ := head_rep (s0 := s) (ms := mods x) hR.rep hget c1 hU rfl c5 (fun _ _ => rfl) (fun _ _ => rfl) (hfx0 s (fun _ _ => rfl)) hst0
          refine wp_loop_ghost (fun n a w => ∃ vs h1 E ρ S, BKs.Is (LAnn.kinds l) vs ∧ Cur.app False _ (I h1) vs ∧ Cur.app 0 _ m vs = n ∧ RepB E0 B.ity E ρ S (headSt s l (mods x) vs) h1 a w) _ ⟨ds, h, E, ρ0, S0, hIs0, hI, rfl, hR.ext, hrep0, hR.hid.step hR.rep hrep0⟩ ?_
          rintro n a1 w1 ⟨vs, hh1, E1, ρ1, S1, hIs, hIv, hn, hrep⟩
          refine ih _ _ (headSt s l (mods x) vs) hh1 a1 w1 E1 ρ1 S1 hrep (head_men hIs hU c5) (Nat.le_refl _) (hround hh1 vs hIs hIv) ?_
          intro e s' h' a' w' E' ρ' S' h1 h2 h3 h4
          -- a temporary that the body does not write is as ahead of the loop
          have htm : ∀ t, t ∉ mods x → s'.tm t = s.tm t := fun t ht => by
            rw [h3.tm t ht]
            show (match lkA (LAnn.tms (s.ep + 1) l vs ((s.ep + 1) * 8192)) t with
              | some v => v
              | none => bif mem t (mods x) then .sc .undef else s.tm t) = s.tm t
            cases hlk : lkA (LAnn.tms (s.ep + 1) l vs ((s.ep + 1) * 8192)) t with
            | some v => exact absurd (c3 t (tms_slots (lkA_mem hlk))) ht
            | none =>
              have : mem t (mods x) = false := by rw [← Bool.not_eq_true, mem_iff]; exact ht
              simp only [this, cond_false]
          have hep : s.ep ≤ s'.ep := Nat.le_trans (Nat.le_succ _) h3.ep
          have exit : Qa e (s'.relv s.st.lv) h' → Qc e.go a' w' := fun hq => by
            refine hG e (s'.relv s.st.lv) h' a' w' E' ρ' S' (h1.relv _) ⟨h2.tm, h2.ob, h2.lv⟩ ⟨fun t ht => htm t ht, fun T lv o hx hlt => ?_, rfl, h3.n, hep⟩ hq
            -- a locked object
            have hno : T ∉ LAnn.ownTags s l := fun ht => by
              obtain ⟨lv', o', q1, q2⟩ := own_may hget T ht
              rw [hx] at q1; simp only [Option.some.injEq, Prod.mk.injEq] at q1
              obtain ⟨rfl, _⟩ := q1; omega
            have hns : T ∉ LAnn.slTags s l := fun ht => by
              simp only [LAnn.tagsOK, Bool.and_eq_true] at c1
              obtain ⟨_, lv', ety, e', xs, q1, q2⟩ := freeOK_iff c1.2 T ht
              rw [hx] at q1; simp only [Option.some.injEq, Prod.mk.injEq] at q1
              obtain ⟨rfl, _⟩ := q1; omega
            refine h3.ob T lv o ?_ (by show lv < s.ep + 1; omega)
            have hobs : T ∉ (LAnn.obs s (s.ep + 1) l vs ((s.ep + 1) * 8192)).map (·.1) := fun hk => by
              rcases obs_keys hIs hget hk with hk | hk
              · exact hno hk
              · have := hU.lv T _ hx
                unfold Upto at this
                omega
            show over (LAnn.obs s (s.ep + 1) l vs ((s.ep + 1) * 8192)) (stay s l) T = some (lv, o)
            rw [over_out hobs]
            unfold stay
            rw [over_out (by rw [mem_frees, cat_eq, List.mem_append, not_or]; exact ⟨hno, hns⟩), hx]
            simp only [keepLow]
            rw [Nat.ble_eq_true_of_le (by omega)]
            rfl
          cases e with
          | exit i => exact exit h4
          | ret => exact exit h4
          | normal =>
            simp only at h4
            show ∃ n', n' < n ∧ _
            split at h4
            · rename_i ws hget'
              cases hok' : LAnn.tagsOK s' l with
              | false => rw [hok'] at h4; exact h4.elim
              | true =>
                rw [hok'] at h4
                simp only [cond_true] at h4
                obtain ⟨hI', hlt⟩ := h4
                have hbox' : ∀ t ∈ annBoxes l, s.tm t = s'.tm t := fun t ht => (htm t (hboxm t ht)).symm
                obtain ⟨hIs', ρ2, S2, hrep'⟩ := head_rep (s0 := s) (ms := mods x) h1.rep hget' hok' hU h3.n c5 htm hbox' (hfx0 s' hbox') (fun T lv o hx => by
                  obtain ⟨q1, q2, q3, q4⟩ := stay_spec hx
                  have hobs : T ∉ (LAnn.obs s (s.ep + 1) l vs ((s.ep + 1) * 8192)).map (·.1) := fun hk => by
                    rcases obs_keys hIs hget hk with hk | hk
                    · exact q1 hk
                    · have := hU.lv T _ q3
                      unfold Upto at this
                      omega
                  have hhead : (headSt s l (mods x) vs).st.ob T = some (lv, o) := by
                    show over (LAnn.obs s (s.ep + 1) l vs ((s.ep + 1) * 8192)) (stay s l) T = some (lv, o)
                    rw [over_out hobs]; exact hx
                  have hs' := h3.ob T lv o hhead (by show lv < s.ep + 1; omega)
                  have hlv : s'.st.lv = s.ep + 1 := h3.lv
                  refine ⟨hs', fun ht => ?_, fun ht => ?_⟩
                  · obtain ⟨lv', o', p1, p2⟩ := own_may hget' T ht
                    rw [hs'] at p1; simp only [Option.some.injEq, Prod.mk.injEq] at p1
                    obtain ⟨rfl, _⟩ := p1; omega
                  · simp only [LAnn.tagsOK, Bool.and_eq_true] at hok'
                    obtain ⟨_, lv', ety, e', xs, p1, p2⟩ := freeOK_iff hok'.2 T ht
                    rw [hs'] at p1; simp only [Option.some.injEq, Prod.mk.injEq] at p1
                    obtain ⟨rfl, _⟩ := p1; omega)
                exact ⟨Cur.app 0 _ m ws, by rw [← hn]; exact hlt, ws, h', E', ρ2, S2, hIs', hI', rfl, h1.ext, hrep', h1.hid.step h1.rep hrep'⟩
            · exact h4.elim
  | _ => intro Qa Qc s h a w E ρ S hR hU hl hw hG; exact hw.elim

end
end Go.Ax

/-
  AxB6: functions by which lists come back that lie aside; functions that mark them.
-/
namespace Go.Ax

/-- Marking a list, out of a contract. -/
theorem mark1_of_meets {P : Program} {ity : Nat} {f : FuncId} {F : FSpec} (hM : Meets P f F) (hlend : F.lend = none) (ha : F.args = [.sc (.own ity .int), .sc .int]) (ho : F.outs = [.sc .int])
    (hpre : ∀ (l : List Int) (k : Int), 0 ≤ k → k ≤ 1000000000 → (l.length : Int) ≤ 1000000000 → F.pre [.sc (.sl .int l), .sc (.int .i64 k)])
    (hpost : ∀ (l l' : List Int) (k r : Int), F.post [.sc (.sl .int l), .sc (.int .i64 k)] [.sc (.sl .int l'), .sc (.int .i64 r)] → l' = markL k l.length ∧ r = k + (l.length : Int)) : Mark1 P ity f where
  there := hM.there
  call := by
    intro w S v l k c h1 h2 hS hlt hgl k0 k1 k2
    have hcall := hM.call hlend w S [.sc (.sl .int l), .sc (.int .i64 k)] [v, .int .i64 k] (by rw [ha]; exact ⟨rfl, trivial, trivial⟩) (hpre l k k0 k1 k2) (by rw [ha]; exact ⟨⟨rfl, c, h1, ints_any h2⟩, ⟨trivial, rfl⟩, trivial⟩)
      (by rw [ha]; simp [AKs.ps, AK.ps, BK.ps, Apart]) (by rw [ha]; intro p hp g hg; simp [AKs.ps, AK.ps, BK.ps] at hp; subst hp; exact hS g hg) hlt hgl
    refine hcall.mono ?_
    rintro e w' ⟨os, rs, outs, S', rfl, i1, i2, hpo, go1, go2, _, _, _, _, _, hos, htape, hout, hsz, hfr⟩
    rw [ha] at i1 go1 hfr
    rw [ho] at i2 go2
    match os, i1, go1 with
    | [.sc (.sl .int l')], i1, go1 =>
      match rs, i2, outs, go2 with
      | [.sc (.int .i64 r)], i2, [u], go2 =>
        obtain ⟨rfl, rfl⟩ := hpost l l' k r hpo.2
        obtain ⟨_, c', g1, g2⟩ := go1.1
        have hu : u = .int .i64 (k + (l.length : Int)) := go2.1.2
        refine ⟨by rw [hu]; rfl, ⟨c', g1, ints_any g2⟩, hos, htape, hout, hsz, fun b hb hne => hfr b hb fun p hp => ?_⟩
        simp [AKs.ps, AK.ps, BK.ps] at hp
        subst hp
        exact hne
      | [.sc (.int .i64 r)], i2, [], go2 => exact go2.elim
      | [.sc (.int .i64 r)], i2, _ :: _ :: _, go2 => exact go2.2.elim
    | [], i1, _ => exact i1.elim
    | [.sc (.int .i64 _)], i1, _ => exact i1.1.elim

section
variable {E0 E : Env} {ity : Nat} {ρ : Nat → Value} {S : Nat → Prop} {s : St} {h : HH} {a : Act} {w : World}

/-- What has been left of the world in which the call began. -/
theorem RepB.frame (hR : RepB E0 ity E ρ S s h a w) : w.os = E0.w0.os ∧ w.tape = E0.w0.tape ∧ w.output = E0.w0.output ∧ E0.w0.heap.size ≤ w.heap.size ∧ ∀ b, b < E0.w0.heap.size → ¬ E0.io b → w.heap[b]? = E0.w0.heap[b]? := by
  obtain ⟨hx, r, _⟩ := hR
  refine ⟨r.fr.os.trans hx.os, r.fr.tape.trans hx.tape, r.fr.output.trans hx.output, Nat.le_trans hx.size r.fr.size, fun b hb hio => ?_⟩
  rw [r.fr.block b (Nat.lt_of_lt_of_le hb hx.size) (fun q => ?_), hx.block b hb hio]
  rcases hx.io b q with q | q
  · exact hio q
  · omega
end

/-- A FUNCTION BY WHICH LISTS COME BACK THAT LIE ASIDE. -/
theorem meetsF_of_vc {P : Program} {B : BX} {ann : Nat → Option LAnn} (hb : BB P B) {f : FuncId} {fn : Func} (hf : P.funcs[f]? = some fn)
    (hname : (fn.name == "runtime.NumGoroutine") = false) {F : FB} (hvc : vcF B ann fn F) : MeetsF P B.ity f F := by
  unfold vcF at hvc
  cases hbody : fn.body with
  | none => rw [hbody] at hvc; exact hvc.elim
  | some c =>
    rw [hbody] at hvc
    simp only at hvc
    cases hc : (F.plain.ok && Nat.ble F.args.length fn.ntmps && F.args.all AK.rd && F.outs.all AK.loose) with
    | false => rw [hc] at hvc; exact hvc.elim
    | true =>
      rw [hc] at hvc
      simp only [cond_true] at hvc
      simp only [Bool.and_eq_true, Nat.ble_eq] at hc
      obtain ⟨⟨⟨hok, hnt⟩, hrd⟩, hloose⟩ := hc
      obtain ⟨p1, p2, p3⟩ := ro_all hrd
      refine ⟨⟨fn, c, hf, hbody, hname⟩, ?_⟩
      intro w Sb ds args hIs hpre hGot hSblt hgl
      have hcode := AKs.all_iff.1 hvc ds hIs hpre
      obtain ⟨E0, rfl, rfl, e3, e4, e5, hrep, hmen⟩ := enter_all (P := P) (F := F.plain) (fn := fn) hok hnt hIs hGot (by rw [show F.plain.args = F.args from rfl, p1]; simp [Apart]) (by rw [show F.plain.args = F.args from rfl, p1]; simp) hSblt hgl
      have hio0 : ∀ b, ¬ E0.io b := fun b hb => by
        obtain ⟨p, hp, _⟩ := e3 b hb
        rw [show F.plain.args = F.args from rfl, p1] at hp
        cases hp
      refine calls_of_wp hf hbody (wpB_sound (E0 := E0) hb c _ _ _ _ _ _ _ _ _ ⟨Ext.refl E0, hrep, by simp, List.Pairwise.nil, by simp⟩ hmen (Nat.zero_le _) hcode ?_)
      intro e s h a w' E ρ S hR hU hK hQ
      have fin : exitF B.cx F fn.results.toList ds s h → a.defers = [] ∧ ∃ v, (results fn a.tmps).run E0.P w' = .ok v w' ∧ ∃ (rs : List AV) (outs : List Value) (h : HH), Ending.returned v = .returned (packV outs) ∧ AKs.Is F.outs rs ∧ F.post ds rs h ∧ AKs.Got Sb w' 0 F.outs rs outs ∧ Apart (AKs.ps w' F.outs outs 0) ∧
          (∀ p ∈ AKs.ps w' F.outs outs 0, ∀ g, blk p.2 = some g → E0.w0.heap.size ≤ g) ∧ (∀ p ∈ h, hidIs B.ity w' p) ∧ (h.Pairwise fun p q => apart2 p.1 q.1) ∧
          (∀ p ∈ h, ∀ g, blk p.1 = some g → E0.w0.heap.size ≤ g ∧ ∀ q ∈ AKs.ps w' F.outs outs 0, blk q.2 ≠ some g) ∧
          w'.os = E0.w0.os ∧ w'.tape = E0.w0.tape ∧ w'.output = E0.w0.output ∧ E0.w0.heap.size ≤ w'.heap.size ∧ ∀ b, b < E0.w0.heap.size → w'.heap[b]? = E0.w0.heap[b]? := by
        intro hx
        unfold exitF at hx
        split at hx
        · rename_i rs hrs
          cases hnd : nodupB (retTags s.st F.outs (fn.results.toList.map (resA B.cx s))) with
          | false => rw [hnd] at hx; exact hx.elim
          | true =>
            rw [hnd] at hx
            simp only [cond_true] at hx
            obtain ⟨h1, h2, he, hpost⟩ := hx
            have he : h = cat h1 h2 := he
            rw [cat_eq] at he
            have hT : TOK E.P B.cx.ti := by rw [hR.ext.P]; exact hb.base.ty
            obtain ⟨outs, o1, o2, o3⟩ := res_all hT hR.rep fn.results.toList (ret_ne hrs)
            rw [hR.ext.P] at o3
            let S2 : Nat → Prop := fun b => S b ∨ ∃ T x, s.st.ob T = some x ∧ blk (ρ T) = some b
            obtain ⟨g1, g2, g3, g4⟩ := AKs.got (Sb := S2) (base := 0) hR.rep (fun b hb => .inl hb) 0 o2 hrs (fun t ht x hx b hb => .inr ⟨t, x, hx, hb⟩) (fun _ _ _ _ => Nat.zero_le _)
            obtain ⟨f1, f2, f3, f4, f5⟩ := hR.frame
            have hpw := hR.hid.ap
            rw [he, List.pairwise_append] at hpw
            have hmem : ∀ p ∈ h1, p ∈ h := fun p hp => by rw [he]; simp [hp]
            refine ⟨hR.rep.df, packV outs, run_results o1 o3, rs, outs, h1, rfl, g1, hpost, AKs.got_any hloose g2, g4 (nodupB_iff.1 hnd), fun p hp g hg => ?_, fun p hp => hR.hid.is p (hmem p hp), hpw.1, fun p hp g hg => ⟨?_, fun q hq hqg => ?_⟩, f1, f2, f3, f4, fun b hb => f5 b hb (hio0 b)⟩
            · obtain ⟨t, ht, e, x, hx⟩ := g3 p hp g hg
              exact (hR.ext.ioS hR.rep hx (by rw [e]; exact hg)).resolve_left (hio0 g)
            · exact ((hR.hid.fr p (hmem p hp) g hg).2.2.2).resolve_right (hio0 g)
            · obtain ⟨t, ht, e, x, hx⟩ := g3 q hq g hqg
              exact (hR.hid.notS hR.rep (hmem p hp) hg).2 t x hx (by rw [e]; exact hqg)
        · exact hx.elim
      cases e with
      | normal => exact fin hQ
      | ret => exact fin hQ
      | exit i => exact hQ.elim

/-- A contract out of which nothing comes back that lies aside. -/
theorem meets_of_F {P : Program} {ity : Nat} {f : FuncId} {F : FB} (hM : MeetsF P ity f F) {G : FSpec} (hok : G.ok = true) (hlend : G.lend = none) (hchk : ∀ ds rs, G.chk ds rs = true) (ha : G.args = F.args) (ho : G.outs = F.outs) (hr : F.args.all AK.rd = true) (hr2 : F.outs.all AK.rd = true)
    (hpre : ∀ ds, G.pre ds → F.pre ds) (hpost : ∀ ds rs h, F.post ds rs h → G.post ds rs) : Meets P f G where
  ok := hok
  there := hM.there
  lcall := fun _ h => by rw [hlend] at h; cases h
  call := by
    intro _ w Sb ds args hIs hp hGot hAp hSbio hSblt hgl
    obtain ⟨p1, p2, p3⟩ := ro_all hr
    obtain ⟨q1, _, _⟩ := ro_all hr2
    refine (hM.call w Sb ds args (by rw [← ha]; exact hIs) (hpre ds hp) (by rw [← ha]; exact hGot) hSblt hgl).mono ?_
    rintro e w' ⟨rs, outs, h, rfl, i1, hpo, go, hap, hnew, _, _, _, hos, htape, hout, hsz, hfr⟩
    refine ⟨[], rs, outs, Sb, rfl, by rw [ha, p2]; trivial, by rw [ho]; exact i1, ⟨hchk _ _, hpost ds rs h hpo⟩, by rw [ha, p2, p3]; trivial, by rw [ho]; exact go, ?_, ?_, ?_, fun _ h => h, fun _ h => .inl h, hos, htape, hout, hsz, fun b hb _ => hfr b hb⟩
    all_goals
      rw [ha, ho, p2, p3, q1]
      simp [AKs.ps, Apart]

/-- A FUNCTION THAT MARKS ENTRIES AND THEIR LISTS. -/
theorem markC_of_vc {P : Program} {B : BX} {ann : Nat → Option LAnn} (hb : BB P B) {f : FuncId} {fn : Func} (hf : P.funcs[f]? = some fn)
    (hname : (fn.name == "runtime.NumGoroutine") = false) {ety : Nat} (hvc : vcM B ann ety fn) : MarkC P B.ity ety f := by
  unfold vcM at hvc
  cases hbody : fn.body with
  | none => rw [hbody] at hvc; exact hvc.elim
  | some c =>
    rw [hbody] at hvc
    simp only at hvc
    cases hc : Nat.ble 2 fn.ntmps with
    | false => rw [hc] at hvc; exact hvc.elim
    | true =>
      rw [hc] at hvc
      simp only [cond_true] at hvc
      refine ⟨⟨fn, c, hf, hbody, hname⟩, ?_⟩
      intro w S v e k cs h1 h2 hid hpw hvp hvS hhS hlt hgl k0 k1
      have hcode := hvc e k k0 k1
      have hGot : AKs.Got S w 0 (markF ety).args [.sc (.sl .ev (nvs e)), .sc (.int .i64 k)] [v, .int .i64 k] := ⟨⟨rfl, cs, h1, h2⟩, ⟨trivial, rfl⟩, trivial⟩
      have hps : AKs.ps w (markF ety).args [v, .int .i64 k] 0 = [(0, v)] := rfl
      obtain ⟨E, rfl, rfl, e3, e4, e5, hrep, hmen⟩ := enter_all (P := P) (F := markF ety) (fn := fn) rfl (Nat.le_of_ble_eq_true hc) (ds := [.sc (.sl .ev (nvs e)), .sc (.int .i64 k)]) ⟨rfl, trivial, trivial⟩ hGot (by rw [hps]; simp [Apart])
        (by rw [hps]; intro p hp g hg; simp at hp; subst hp; exact hvS g hg) hlt hgl
      have hio : ∀ b, E.io b → blk v = some b := fun b hb => by
        obtain ⟨p, hp, hpb⟩ := e3 b hb
        rw [hps] at hp
        simp at hp
        subst hp
        exact hpb
      have hnio : ∀ b, E.S0 b → b < E.w0.heap.size ∧ ¬ (E.io b ∨ ∃ p ∈ vls e, blk p.1 = some b) := fun b hb => by
        refine ⟨(E.nio b hb).1, ?_⟩
        rw [e4] at hb
        rintro (q | ⟨p, hp, hg⟩)
        · exact hvS b (hio b q) hb
        · exact hhS p hp b hg hb
      let E0 : Env := { E with io := fun b => E.io b ∨ ∃ p ∈ vls e, blk p.1 = some b, nio := hnio }
      have hext : Ext E0 E := ⟨rfl, rfl, rfl, rfl, Nat.le_refl _, fun _ _ _ => rfl, fun _ h => h, fun _ h => .inl h, fun _ h => .inl (.inl h), fun _ _ => rfl⟩
      refine calls_of_wp hf hbody (wpB_sound (E0 := E0) hb c _ _ _ _ _ _ _ _ _ ⟨hext, hrep, hid, hpw, fun p hp g hg => ⟨(hid p hp).lt g hg, by rw [e4]; exact hhS p hp g hg, fun q => hvp p hp g (hio g q) hg, .inr (.inr ⟨p, hp, hg⟩)⟩⟩ hmen (Nat.zero_le _) hcode ?_)
      intro en s h a w' E' ρ S' hR hU hK hQ
      have fin : exitM B.cx ety k e fn.results.toList s h → a.defers = [] ∧ ∃ u, (results fn a.tmps).run E0.P w' = .ok u w' ∧ Ending.returned u = .returned (.int .i64 (endE k e)) ∧ (∃ d, w'.ownsRow 0 ety 2 v (nvs (markE k e)).length d ∧ rowCells S w' .ev (nvs (markE k e)) d) ∧ (∀ p ∈ vls (markE k e), hidIs B.ity w' p) ∧
          w'.os = E.w0.os ∧ w'.tape = E.w0.tape ∧ w'.output = E.w0.output ∧ E.w0.heap.size ≤ w'.heap.size ∧ ∀ b, b < E.w0.heap.size → blk v ≠ some b → (∀ p ∈ vls e, blk p.1 ≠ some b) → w'.heap[b]? = E.w0.heap[b]? := by
        intro hx
        unfold exitM at hx
        split at hx
        · rename_i l0 ety' ys r hob hres
          cases hee : Nat.beq ety' ety with
          | false => rw [hee] at hx; exact hx.elim
          | true =>
            rw [hee] at hx
            simp only [cond_true] at hx
            obtain ⟨g1, g2, g3⟩ := hx
            have g1 : ys = nvs (markE k e) := g1
            have g2 : r = endE k e := g2
            have g3 : h = vls (markE k e) := g3
            obtain rfl := beq_iff.1 hee
            subst g1 g2 g3
            obtain ⟨d1, o1, o2⟩ := hR.rep.ob 0 l0 _ hob
            have hρ : ρ 0 = v := by
              rw [hR.rep.r0 0 (by omega), hR.ext.r0 0 (by omega)]
              show E.ρ0 0 = v
              rw [e5]; rfl
            rw [hρ] at o1
            have hdb : retData s.st (markF ety').outs (fn.results.toList.map (resA B.cx s)) = some [.sc (.int .i64 (endE k e))] := by rw [hres]; rfl
            have hT : TOK E'.P B.cx.ti := by rw [hR.ext.P]; exact hb.base.ty
            obtain ⟨outs, p1, p2, p3⟩ := res_all hT hR.rep fn.results.toList (ret_ne hdb)
            rw [hR.ext.P] at p3
            rw [hres] at p2
            obtain ⟨f1, f2, f3, f4, f5⟩ := hR.frame
            match outs, p2, p1, p3 with
            | [u], p2, p1, p3 =>
              have hu : u = .int .i64 (endE k e) := p2.1
              refine ⟨hR.rep.df, packV [u], run_results p1 p3, by rw [hu]; rfl, ⟨d1, o1, ?_⟩, fun p hp => hR.hid.is p hp, f1, f2, f3, f4, fun b hb n1 n2 => f5 b hb fun q => ?_⟩
              · intro i x hi j u hj
                obtain ⟨cv, q1, q2⟩ := o2 i x hi j u hj
                refine ⟨cv, q1, ?_⟩
                match j, hj with
                | 0, hj => simp only [ET.cells, List.getElem?_cons_zero, Option.some.injEq] at hj; subst hj; exact q2
                | 1, hj => simp only [ET.cells, List.getElem?_cons_succ, List.getElem?_cons_zero, Option.some.injEq] at hj; subst hj; exact q2
                | j + 2, hj => simp [ET.cells] at hj
              · rcases q with q | ⟨p, hp, q⟩
                · exact n1 (hio b q)
                · exact n2 p hp q
            | [], p2, _, _ => exact p2.elim
            | _ :: _ :: _, p2, _, _ => exact p2.2.elim
        · exact hx.elim
      cases en with
      | normal => exact fin hQ
      | ret => exact fin hQ
      | exit i => exact hQ.elim

/-! ### Tables -/

def AllS (P : Program) (ity : Nat) : List (Nat × SpK) → Prop
  | [] => True
  | (_, .hide) :: r => AllS P ity r
  | (_, .call f R) :: r => BFok P ity f R ∧ AllS P ity r

theorem AllS.get {P : Program} {ity : Nat} : ∀ {l : List (Nat × SpK)}, AllS P ity l → ∀ d f R, lk l d = some (.call f R) → BFok P ity f R
  | [], _, d, f, R, h => by cases h
  | (d', .hide) :: r, hl, d, f, R, h => by
    simp only [lk] at h
    cases hb : Nat.beq d' d with
    | true => rw [hb] at h; cases h
    | false => rw [hb] at h; exact AllS.get (l := r) hl d f R h
  | (d', .call f' R') :: r, hl, d, f, R, h => by
    simp only [lk] at h
    cases hb : Nat.beq d' d with
    | true =>
      rw [hb] at h
      simp only [cond_true, Option.some.injEq, SpK.call.injEq] at h
      obtain ⟨rfl, rfl⟩ := h
      exact hl.1
    | false => rw [hb] at h; exact AllS.get (l := r) hl.2 d f R h

section
variable {P : Program} {ti : Nat → Option TI} {f : FuncId} {fn : Func} {l : List (Nat × FSpec)} {sp : List (Nat × SpK)} {ity : Nat} {ann : List (Nat × LAnn)}

theorem bb_of (hT : TOK P ti) (hl : AllM P l) (hs : AllS P ity sp) : BB P ⟨⟨ti, lk l⟩, ity, lk sp⟩ := ⟨⟨hT, hl.get⟩, hs.get⟩

theorem meetsF (hT : TOK P ti) (hf : P.funcs[f]? = some fn) (hname : (fn.name == "runtime.NumGoroutine") = false) (hl : AllM P l) (hs : AllS P ity sp) {F : FB} {V : Prop} (hV : V)
    (he : vcF ⟨⟨ti, lk l⟩, ity, lk sp⟩ (lk ann) fn F = V) : MeetsF P ity f F :=
  meetsF_of_vc (B := ⟨⟨ti, lk l⟩, ity, lk sp⟩) (ann := lk ann) (bb_of hT hl hs) hf hname (he.symm ▸ hV)

theorem markC (hT : TOK P ti) (hf : P.funcs[f]? = some fn) (hname : (fn.name == "runtime.NumGoroutine") = false) (hl : AllM P l) (hs : AllS P ity sp) {ety : Nat} {V : Prop} (hV : V)
    (he : vcM ⟨⟨ti, lk l⟩, ity, lk sp⟩ (lk ann) ety fn = V) : MarkC P ity ety f :=
  markC_of_vc (B := ⟨⟨ti, lk l⟩, ity, lk sp⟩) (ann := lk ann) (bb_of hT hl hs) hf hname (he.symm ▸ hV)
end

end Go.Ax
