/-
  A run reckoned ahead: what stands for what; quiet operations do what was reckoned.
-/
import Derived.Test.YticednpolhnneaaGreatSxc
import Derived.Laws.Cells
import Derived.Laws.Entries
import Derived.ChangeKeysEq
set_option linter.unusedVariables false
set_option linter.unusedSimpArgs false
namespace Go.Proofs.YticednpolhnneaaGreat
open Go

/-! what stands for what -/
def live : AObj → Bool
  | .dead => false
  | _ => true
noncomputable def celA (c : Tr AV) (d : Option AV) (i : Nat) : Option AV := match c.get i with
  | some v => some v
  | none => d
inductive EntOk (φ : List Pl) (ρ : Nat → Int) : List (AV × AV × Nat) → List MapEntry → Prop
  | nil : EntOk φ ρ [] []
  | cons {k v : AV} {b : Nat} {l : List (AV × AV × Nat)} {x y : Value} {m : List MapEntry} (hk : conc φ ρ k = some x) (hv : conc φ ρ v = some y) (h : EntOk φ ρ l m) : EntOk φ ρ ((k, v, b) :: l) (⟨x, y, b⟩ :: m)

structure CelOk (P : Program) (φ : List Pl) (ρ : Nat → Int) (w : World) (p : Pl) (arr : Array Value) (fz : Nat × Nat) (n : Nat) (c : Tr AV) (d : Option AV) (T : TypeId) (row : Bool) : Prop where
  blk : w.heap[p.blk]? = some (.cells arr T fz)
  size : arr.size = p.sz
  le : p.sh + n ≤ p.sz
  fix : row = false → p.sh = 0 ∧ p.sz = n ∧ fz = (0, 0) ∧ p.es = 1
  es : row = true → sizeA P T = some p.es ∧ 0 < p.es
  fr : ∀ i, i < p.sz → ¬ (fz.1 ≤ i ∧ i < fz.2)
  cell : ∀ i, i < n → ∃ v x, celA c d i = some v ∧ conc φ ρ v = some x ∧ arr[p.sh + i]? = some x ∧ oneB v = true

/-- the bytes of a rope -/
def Ch.zs (ρ : Nat → Int) : Ch → List Int
  | .bs l => l.map (SI.ev ρ)
  | .fil n v => List.replicate (n.ev ρ).toNat (v.ev ρ)
  | .row a o n => (List.range (n.ev ρ).toNat).map fun i => rowB ρ a ((o.ev ρ).toNat + i)
def ropeZ (ρ : Nat → Int) (cs : List Ch) : List Int := cs.flatMap (Ch.zs ρ)
structure RopeOk (P : Program) (ρ : Nat → Int) (w : World) (p : Pl) (arr : Array Value) (fz : Nat × Nat) (cs : List Ch) (T : TypeId) (row : Bool) : Prop where
  blk : w.heap[p.blk]? = some (.cells arr T fz)
  size : arr.size = p.sz
  le : p.sh + (ropeZ ρ cs).length ≤ p.sz
  fix : row = false → p.sh = 0 ∧ p.sz = (ropeZ ρ cs).length ∧ fz = (0, 0) ∧ p.es = 1
  es : row = true → sizeA P T = some p.es ∧ 0 < p.es
  e1 : p.es = 1
  fr : ∀ i, i < p.sz → ¬ (fz.1 ≤ i ∧ i < fz.2)
  cell : ∀ i z, (ropeZ ρ cs)[i]? = some z → arr[p.sh + i]? = some (.int .u8 z)

/-- a map that may be there -/
def MapAt (φ : List Pl) : Option Nat → Option Nat → Prop
  | none, none => True
  | some i, some b => ∃ q, φ[i]? = some q ∧ q.blk = b
  | _, _ => False
def ObjOk (P : Program) (φ : List Pl) (ρ : Nat → Int) (w : World) (id : Nat) : AObj → Prop
  | .cells n c d T row => ∃ p arr fz, φ[id]? = some p ∧ CelOk P φ ρ w p arr fz n c d T row
  | .map es clk => ∃ p xs, φ[id]? = some p ∧ w.heap[p.blk]? = some (.map xs clk) ∧ EntOk φ ρ es xs.toList
  | .iter m since seen last => ∃ p m', φ[id]? = some p ∧ p.sh = 0 ∧ MapAt φ m m' ∧ w.heap[p.blk]? = some (.mapIter m' since seen.toArray last)
  | .rope cs T row => ∃ p arr fz, φ[id]? = some p ∧ RopeOk P ρ w p arr fz cs T row
  | .dead => ∃ p, φ[id]? = some p

structure Hp (P : Program) (φ : List Pl) (ρ : Nat → Int) (h : Tr AObj) (w : World) : Prop where
  obj : ∀ id o, h.get id = some o → ObjOk P φ ρ w id o
  sep : ∀ i j o o' p q, h.get i = some o → h.get j = some o' → live o = true → live o' = true → φ[i]? = some p → φ[j]? = some q → p.blk = q.blk → i = j

/-- what was put off -/
inductive DfOk (φ : List Pl) (ρ : Nat → Int) : Option AV → List Deferred → Prop
  | none : DfOk φ ρ none []
  | nil : DfOk φ ρ (some undefA) []
  | cons {g : FuncId} {b l : List AV} {rest : AV} {ys xs : List Value} {ds : List Deferred} (hb : concL φ ρ b = some ys) (hl : concL φ ρ l = some xs) (h : DfOk φ ρ (some rest) ds) : DfOk φ ρ (some (.dfr (.fn (.func g) [] b) l rest)) ({ target := .fn (.func g) ys.toArray, args := xs.toArray } :: ds)
theorem DfOk.mono {φ φ' : List Pl} {ρ : Nat → Int} {o : Option AV} {ds : List Deferred} (h : DfOk φ ρ o ds) (hp : φ <+: φ') : DfOk φ' ρ o ds := by
  induction h with
  | none => exact .none
  | nil => exact .nil
  | cons hb hl _ ih => exact .cons (concL_mono hp _ _ hb) (concL_mono hp _ _ hl) ih
structure GA (φ : List Pl) (ρ : Nat → Int) (t : Ts) (sz : Nat) (a : Act) : Prop where
  size : a.tmps.size = sz
  tm : ∀ d v, t.get d = some v → conc φ ρ v = some (a.tmps.getD d undef)
  df : DfOk φ ρ (t.get sz) a.defers
def RgOk (ρ : Nat → Int) (rg : List (Int × Int)) : Prop := ∀ i l h, nthR rg i = some (l, h) → l ≤ ρ i ∧ ρ i ≤ h
structure Holds (ρ : Nat → Int) (pc : PC) : Prop where
  l : ∀ x ∈ pc.l, x.1.ev ρ = x.2
  rg : RgOk ρ pc.rg
structure PcExt (pc pc' : PC) : Prop where
  l : ∃ l, pc'.l = l ++ pc.l
  rg : pc'.rg = pc.rg
theorem PcExt.refl (pc : PC) : PcExt pc pc := ⟨⟨[], rfl⟩, rfl⟩
theorem PcExt.trans {a b c : PC} (h : PcExt a b) (k : PcExt b c) : PcExt a c := by
  obtain ⟨⟨l, hl⟩, h2⟩ := h
  obtain ⟨⟨m, hm⟩, k2⟩ := k
  exact ⟨⟨m ++ l, by rw [hm, hl, List.append_assoc]⟩, k2.trans h2⟩
theorem Holds.of_ext {ρ : Nat → Int} {a b : PC} (h : Holds ρ b) (k : PcExt a b) : Holds ρ a := by
  obtain ⟨⟨l, hl⟩, k2⟩ := k
  refine ⟨fun x hx => h.l x (by rw [hl]; exact List.mem_append_right _ hx), ?_⟩
  rw [← k2]
  exact h.rg

theorem GA.mono {φ φ' : List Pl} {ρ : Nat → Int} {t : Ts} {sz : Nat} {a : Act} (h : GA φ ρ t sz a) (hp : φ <+: φ') : GA φ' ρ t sz a := ⟨h.size, fun d v hv => conc_mono hp _ _ (h.tm d v hv), h.df.mono hp⟩
theorem GA.put {φ : List Pl} {ρ : Nat → Int} {t : Ts} {sz : Nat} {a : Act} (h : GA φ ρ t sz a) {d : Nat} (hd : d < sz) {v : AV} {x : Value} (hx : conc φ ρ v = some x) : GA φ ρ (Ts.put d v t) sz (a.put (some d) x) := by
  refine ⟨by simp [Act.put, h.size], fun e u hu => ?_, ?_⟩
  rotate_left
  · have hne : sz ≠ d := by omega
    rcases Ts.get_put d v t sz with ⟨_, e⟩ | ⟨h1, _⟩ | ⟨h1, h2⟩
    · exact absurd e hne
    · rw [h1]; exact h.df
    · rw [h2, ← h1]; exact h.df
  simp only [Act.put]
  rcases Ts.get_put d v t e with ⟨h1, rfl⟩ | ⟨h1, he⟩ | ⟨_, h1⟩
  · rw [h1] at hu
    cases hu
    have : e < a.tmps.size := by rw [h.size]; exact hd
    simp [Array.getD, this, hx]
  · rw [h1] at hu
    have := h.tm e u hu
    rw [this]
    congr 1
    simp only [Array.getD, Array.size_setIfInBounds, Array.getInternal_eq_getElem]
    split
    · rw [Array.getElem_setIfInBounds_ne]; exact fun h => he h.symm
    · rfl
  · rw [h1] at hu; cases hu
theorem GA.defer {φ : List Pl} {ρ : Nat → Int} {t : Ts} {sz : Nat} {a : Act} (h : GA φ ρ t sz a) {g : FuncId} {b l : List AV} {rest : AV} {ys xs : List Value} (hr : rest = (t.get sz).getD undefA) (hb : concL φ ρ b = some ys) (hl : concL φ ρ l = some xs) :
    GA φ ρ (Ts.put sz (.dfr (.fn (.func g) [] b) l rest) t) sz { a with defers := { target := .fn (.func g) ys.toArray, args := xs.toArray } :: a.defers } := by
  have hget : (Ts.put sz (.dfr (.fn (.func g) [] b) l rest) t).get sz = some (.dfr (.fn (.func g) [] b) l rest) := (Tr.get_set t sz _ sz).trans (if_pos rfl)
  refine ⟨h.size, fun e u hu => ?_, ?_⟩
  · rcases Ts.get_put sz (.dfr (.fn (.func g) [] b) l rest) t e with ⟨h1, rfl⟩ | ⟨h1, he⟩ | ⟨_, h1⟩
    · rw [h1] at hu
      cases hu
      show some undef = some (a.tmps.getD e undef)
      rw [Array.getD, dif_neg (by rw [h.size]; omega)]
    · rw [h1] at hu
      exact h.tm e u hu
    · rw [h1] at hu; cases hu
  · rw [hget]
    refine .cons hb hl ?_
    have := h.df
    subst hr
    cases ho : t.get sz with
    | none =>
      rw [ho] at this
      show DfOk φ ρ (some undefA) a.defers
      generalize a.defers = ds at this
      cases this
      exact .nil
    | some v =>
      rw [ho] at this
      exact this
/-! the reckoning, backwards -/
section
variable {D : Dn}
theorem optK_inv {β : Type} {o : Option β} {n : Nat} {κ : β → R} (h : optK o n κ ∈ D) : ∃ b, o = some b ∧ κ b ∈ D := by
  cases o with
  | none => cases h
  | some b => exact ⟨b, rfl, h⟩
theorem brec_inv {n : Nat} {r : R} {c : Bool} (h : Bool.rec (motive := fun _ => R) (.fail n) r c ∈ D) : c = true ∧ r ∈ D := by
  cases c with
  | false => cases h
  | true => exact ⟨rfl, h⟩
theorem brec_cases {r r' : R} {c : Bool} (h : Bool.rec (motive := fun _ => R) r' r c ∈ D) : (c = true ∧ r ∈ D) ∨ (c = false ∧ r' ∈ D) := by
  cases c with
  | false => exact .inr ⟨rfl, h⟩
  | true => exact .inl ⟨rfl, h⟩
theorem intV_inv {v : AV} {n : Nat} {κ : IntKind → SI → R} (h : intV v n κ ∈ D) : ∃ k e, v = .int k e ∧ κ k e ∈ D := by
  cases v <;> first | exact ⟨_, _, rfl, h⟩ | cases h
theorem boolV_inv {v : AV} {n : Nat} {κ : SB → R} (h : boolV v n κ ∈ D) : ∃ b, v = .bool b ∧ κ b ∈ D := by
  cases v <;> first | exact ⟨_, rfl, h⟩ | cases h
theorem ptrV_inv {v : AV} {n : Nat} {κ : Nat → Nat → R} (h : ptrV v n κ ∈ D) : ∃ i o, v = .ptr i o ∧ κ i o ∈ D := by
  cases v <;> first | exact ⟨_, _, rfl, h⟩ | cases h
theorem asInt_inv {v : AV} {κ : IntKind → SI → R} (h : asInt v κ ∈ D) : ∃ k e, v = .int k e ∧ κ k e ∈ D := intV_inv h
theorem asLitK_inv {e : SI} {κ : Nat → R} (h : asLitK κ e ∈ D) : ∃ n, e = .lit (Int.ofNat n) ∧ κ n ∈ D := by
  cases e with
  | lit n => cases n with
    | ofNat n => exact ⟨_, rfl, h⟩
    | negSucc n => cases h
  | _ => cases h
theorem asNat_inv {v : AV} {κ : Nat → R} (h : asNat v κ ∈ D) : ∃ k n, v = .int k (.lit (Int.ofNat n)) ∧ κ n ∈ D := by
  obtain ⟨k, e, rfl, h1⟩ := intV_inv h
  obtain ⟨n, rfl, h2⟩ := asLitK_inv h1
  exact ⟨_, _, rfl, h2⟩
theorem asBoolA_inv {v : AV} {κ : SB → R} (h : asBoolA v κ ∈ D) : ∃ b, v = .bool b ∧ κ b ∈ D := boolV_inv h
theorem lookB_inv {ρ : Nat → Int} {c : SB} {b : Bool} : ∀ {l : List (SB × Bool)}, lookB l c = some b → (∀ x ∈ l, x.1.ev ρ = x.2) → c.ev ρ = b
  | [], h, _ => by cases h
  | x :: l, h, hl => by
    unfold lookB at h
    cases hb : SB.beq x.1 c with
    | true =>
      rw [hb] at h
      have h : some x.2 = some b := h
      cases h
      rw [← SB.beq_eq _ _ hb]
      exact hl x (by simp)
    | false =>
      rw [hb] at h
      exact lookB_inv h fun y hy => hl y (by simp [hy])
theorem partS_inv {c : SB} : ∀ {l : List (List Int)} {κ : List (List Int) → List (List Int) → R}, partS c l κ ∈ D → ∃ a b, κ a b ∈ D
  | [], κ, h => ⟨_, _, h⟩
  | x :: l, κ, h => by
    have h : partS c l (fun a b => List.rec (motive := fun _ => R) (κ (x :: a) (x :: b)) (fun _ _ _ => Bool.rec (motive := fun _ => R) (κ a (x :: b)) (κ (x :: a) b) (SB.evF x c)) x) ∈ D := h
    obtain ⟨a, b, h1⟩ := partS_inv h
    cases x with
    | nil => exact ⟨_, _, h1⟩
    | cons y x =>
      rcases brec_cases (show Bool.rec (motive := fun _ => R) (κ a ((y :: x) :: b)) (κ ((y :: x) :: a) b) (SB.evF (y :: x) c) ∈ D from h1) with ⟨_, h2⟩ | ⟨_, h2⟩
      · exact ⟨_, _, h2⟩
      · exact ⟨_, _, h2⟩
theorem brS_inv {κ : Bool → PC → R} {b : Bool} {c : SB} {l : List (SB × Bool)} {rg : List (Int × Int)} {smp : List (List Int)} (h : brS κ b c l rg smp ∈ D) : κ b ⟨(c, b) :: l, smp, rg⟩ ∈ D := by
  unfold brS at h
  split at h
  · cases h
  · exact h
theorem fork_inv {c : SB} {a b : R} (h : R.fork c a b ∈ D) : (c.ev D.ρ = true ∧ a ∈ D) ∨ (c.ev D.ρ = false ∧ b ∈ D) := h
/-! ranges -/
theorem pos0_eq (a : Int) : pos0 a = decide (0 ≤ a) := by
  unfold pos0
  rw [notF_eq, bltF_eq]
  by_cases h : a < Int.ofNat 0
  · rw [decide_eq_true h, decide_eq_false (by simp only [Int.ofNat_eq_natCast] at h; omega)]; rfl
  · rw [decide_eq_false h, decide_eq_true (by simp only [Int.ofNat_eq_natCast] at h; omega)]; rfl
def In (x : Int) (r : Option (Int × Int)) : Prop := ∀ l h, r = some (l, h) → l ≤ x ∧ x ≤ h
theorem anyR_in (k : IntKind) (n : Int) : In (k.wrap n) (anyR k) := by
  intro l h e
  cases e
  exact wrap_rng k n
theorem fitR_in {k : IntKind} {n a b : Int} (h : a ≤ n ∧ n ≤ b) : In (k.wrap n) (fitR k a b) := by
  unfold fitR
  rw [forceI_eq, forceI_eq]
  cases hb : (leF (minK k) a && leF b (maxK k)) with
  | false => exact anyR_in k n
  | true =>
    simp only [Bool.and_eq_true, leF_eq, decide_eq_true_eq] at hb
    intro l h' e
    cases e
    rw [wrap_in ⟨by omega, by omega⟩]
    exact h
theorem opt1_some {α : Type} {a : Option (Int × Int)} {κ : Int → Int → Option α} {x : α} (h : opt1 a none κ = some x) : ∃ l u, a = some (l, u) ∧ κ l u = some x := by
  cases a with
  | none => cases h
  | some r => exact ⟨r.1, r.2, rfl, h⟩
theorem and_le {k : IntKind} {x y : Int} (h0 : 0 ≤ y) (h1 : y ≤ maxK k) : 0 ≤ k.wrap ((BitVec.ofInt k.bits x &&& BitVec.ofInt k.bits y).toNat : Int) ∧ k.wrap ((BitVec.ofInt k.bits x &&& BitVec.ofInt k.bits y).toNat : Int) ≤ y := by
  have h2 : (BitVec.ofInt k.bits x &&& BitVec.ofInt k.bits y).toNat ≤ (BitVec.ofInt k.bits y).toNat := by
    rw [BitVec.toNat_and]
    exact Nat.and_le_right
  have h3 : ((BitVec.ofInt k.bits y).toNat : Int) = y := by
    rw [BitVec.toNat_ofInt]
    have h4 : y < ((2 ^ k.bits : Nat) : Int) := by
      revert h1
      cases k <;> simp only [maxK, IntKind.bits, Int.ofNat_eq_natCast] <;> omega
    rw [Int.emod_eq_of_lt h0 h4]
    omega
  have h5 : k.wrap ((BitVec.ofInt k.bits x &&& BitVec.ofInt k.bits y).toNat : Int) = ((BitVec.ofInt k.bits x &&& BitVec.ofInt k.bits y).toNat : Int) := wrap_in ⟨by
    have : minK k ≤ 0 := by cases k <;> simp [minK]
    omega, by omega⟩
  rw [h5]
  omega
theorem binR0_in {op : BinOp} {k : IntKind} {x y la ha lb hb : Int} (hx : la ≤ x ∧ x ≤ ha) (hy : lb ≤ y ∧ y ≤ hb) : In (binZ op k x y) (binR0 op k la ha lb hb) := by
  unfold binR0
  split
  · exact fitR_in ⟨by show la + lb ≤ x + y; omega, by show x + y ≤ ha + hb; omega⟩
  · exact fitR_in ⟨by show la - hb ≤ x - y; omega, by show x - y ≤ ha - lb; omega⟩
  · cases h : (pos0 la && pos0 lb) with
    | false => exact anyR_in k _
    | true =>
      simp only [Bool.and_eq_true, pos0_eq, decide_eq_true_eq] at h
      exact fitR_in ⟨Int.mul_le_mul hx.1 hy.1 h.2 (by omega), Int.mul_le_mul hx.2 hy.2 (by omega) (by omega)⟩
  · cases h : (pos0 lb && leF hb (maxK k)) with
    | false => exact anyR_in k _
    | true =>
      simp only [Bool.and_eq_true, pos0_eq, leF_eq, decide_eq_true_eq] at h
      intro l u e
      cases e
      have := and_le (k := k) (x := x) (y := y) (by omega) (by omega)
      exact ⟨this.1, Int.le_trans this.2 hy.2⟩
  · cases h : (pos0 la && (beqF lb hb && leF la ha)) with
    | false => intro l u e; cases e
    | true =>
      simp only [Bool.and_eq_true, pos0_eq, leF_eq, beqF_eq, decide_eq_true_eq] at h
      obtain ⟨h1, rfl, h3⟩ := h
      intro l u e
      have e : forceI (shrF la (minF (Int.toNat lb) (bitsF k))) (fun l => forceI (shrF ha (minF (Int.toNat lb) (bitsF k))) fun h => some (l, h)) = some (l, u) := e
      rw [forceI_eq, forceI_eq] at e
      cases e
      have hy' : y = lb := by omega
      subst hy'
      obtain ⟨a, rfl⟩ := Int.eq_ofNat_of_zero_le h1
      obtain ⟨b, rfl⟩ := Int.eq_ofNat_of_zero_le (show 0 ≤ ha by omega)
      obtain ⟨c, rfl⟩ := Int.eq_ofNat_of_zero_le (show 0 ≤ x by omega)
      have hm : minF (Int.toNat y) (bitsF k) = min y.toNat k.bits := by rw [minF_eq]; cases k <;> rfl
      have hf : ∀ z : Nat, shrF (z : Int) (minF (Int.toNat y) (bitsF k)) = ((z / 2 ^ (min y.toNat k.bits) : Nat) : Int) := by
        intro z
        rw [hm]
        rfl
      have hz : binZ .shr k (c : Int) y = ((c / 2 ^ (min y.toNat k.bits) : Nat) : Int) := by
        show Int.fdiv (c : Int) (2 ^ (min y.toNat k.bits)) = _
        rw [Int.fdiv_eq_ediv_of_nonneg _ (by have : (0 : Int) < 2 ^ (min y.toNat k.bits) := Int.pow_pos (by omega); omega)]
        simp
      show shrF (a : Int) _ ≤ binZ .shr k (c : Int) y ∧ binZ .shr k (c : Int) y ≤ shrF (b : Int) _
      rw [hf, hf, hz]
      exact ⟨Int.ofNat_le.2 (Nat.div_le_div_right (by omega)), Int.ofNat_le.2 (Nat.div_le_div_right (by omega))⟩
  · exact anyR_in k _
  · exact anyR_in k _
  · exact anyR_in k _
  · cases h : (pos0 la && (pos0 lb && (beqF lb hb && leF hb (.ofNat (nat_lit 62))))) with
    | false => exact anyR_in k _
    | true =>
      simp only [Bool.and_eq_true, pos0_eq, leF_eq, beqF_eq, decide_eq_true_eq] at h
      obtain ⟨h1, h2, rfl, h4⟩ := h
      have hy' : y = lb := by omega
      subst hy'
      obtain ⟨c, rfl⟩ := Int.eq_ofNat_of_zero_le h2
      have hz : binZ .shl k x (c : Int) = k.wrap (x * 2 ^ (min c k.bits)) := rfl
      have hp : (0 : Int) < 2 ^ (min c k.bits) := Int.pow_pos (by omega)
      rw [hz]
      have hm : minF (Int.toNat (c : Int)) (bitsF k) = min c k.bits := by rw [minF_eq]; cases k <;> rfl
      refine fitR_in ⟨?_, ?_⟩
      · show Int.mul la (Int.ofNat (Nat.pow 2 (minF (Int.toNat (c : Int)) (bitsF k)))) ≤ _
        rw [hm, show Int.ofNat (Nat.pow 2 (min c k.bits)) = (2 : Int) ^ (min c k.bits) by rw [Int.ofNat_eq_natCast]; exact Int.natCast_pow 2 _]
        exact Int.mul_le_mul_of_nonneg_right hx.1 (by omega)
      · show _ ≤ Int.mul ha (Int.ofNat (Nat.pow 2 (minF (Int.toNat (c : Int)) (bitsF k))))
        rw [hm, show Int.ofNat (Nat.pow 2 (min c k.bits)) = (2 : Int) ^ (min c k.bits) by rw [Int.ofNat_eq_natCast]; exact Int.natCast_pow 2 _]
        exact Int.mul_le_mul_of_nonneg_right hx.2 (by omega)
  · intro l u e; cases e
theorem foldZ_in : ∀ (m : Nat) (n : Int), 0 ≤ n → n < 9223372036854775808 → n < m → 0 ≤ foldZ n ∧ foldZ n ≤ 65535 := by
  intro m
  induction m with
  | zero => intro n h0 hb h1; omega
  | succ m ih =>
    intro n h0 hb h1
    unfold foldZ
    split
    · rename_i h
      have e : (n % 65536 + n / 65536 + 9223372036854775808) % 18446744073709551616 - 9223372036854775808 = n % 65536 + n / 65536 := by
        rw [Int.emod_eq_of_lt (by omega) (by omega)]; omega
      rw [e]
      exact ih _ (by omega) (by omega) (by omega)
    · omega
theorem foldZ_pos : ∀ (m : Nat) (n : Int), 0 < n → n < 9223372036854775808 → n < m → 1 ≤ foldZ n := by
  intro m
  induction m with
  | zero => intro n h0 hb h1; omega
  | succ m ih =>
    intro n h0 hb h1
    unfold foldZ
    split
    · rename_i h
      have e : (n % 65536 + n / 65536 + 9223372036854775808) % 18446744073709551616 - 9223372036854775808 = n % 65536 + n / 65536 := by
        rw [Int.emod_eq_of_lt (by omega) (by omega)]; omega
      rw [e]
      exact ih _ (by omega) (by omega) (by omega)
    · omega
theorem andNot_mask {k : IntKind} {x : Int} {j : Nat} (h0 : 0 ≤ x) (h1 : x ≤ maxK k) : binZ .andNot k x (2 ^ j - 1) = x - x % 2 ^ j := by
  obtain ⟨n, rfl⟩ := Int.eq_ofNat_of_zero_le h0
  have hw : n < 2 ^ k.bits := by
    revert h1
    cases k <;> simp only [maxK, IntKind.bits, Int.ofNat_eq_natCast] <;> omega
  have hy : ((2 : Int) ^ j - 1) = ((2 ^ j - 1 : Nat) : Int) := by
    have : 0 < 2 ^ j := Nat.pow_pos (by omega)
    rw [Int.ofNat_sub (by omega)]
    simp
  have hb : (BitVec.ofInt k.bits (n : Int) &&& ~~~ BitVec.ofInt k.bits ((2 : Int) ^ j - 1)).toNat = n / 2 ^ j * 2 ^ j := by
    rw [hy, BitVec.ofInt_natCast, BitVec.ofInt_natCast]
    apply Nat.eq_of_testBit_eq
    intro i
    rw [BitVec.testBit_toNat, BitVec.getLsbD_and, BitVec.getLsbD_not, BitVec.getLsbD_ofNat, BitVec.getLsbD_ofNat, Nat.testBit_two_pow_sub_one, ← Nat.shiftRight_eq_div_pow, ← Nat.shiftLeft_eq, Nat.testBit_shiftLeft, Nat.testBit_shiftRight]
    by_cases hi : i < k.bits
    · by_cases hj : i < j
      · simp [hi, hj, Nat.not_le.2 hj]
      · simp [hi, hj, Nat.not_lt.1 hj]
    · have : n.testBit i = false := Nat.testBit_lt_two_pow (Nat.lt_of_lt_of_le hw (Nat.pow_le_pow_right (by omega) (by omega)))
      by_cases hj : i < j
      · simp [hi, hj, Nat.not_le.2 hj]
      · simp [hi, this, Nat.not_lt.1 hj]
  have hle : n / 2 ^ j * 2 ^ j ≤ n := Nat.div_mul_le_self n _
  show k.wrap ((BitVec.ofInt k.bits (n : Int) &&& ~~~ BitVec.ofInt k.bits ((2 : Int) ^ j - 1)).toNat : Int) = _
  rw [hb, wrap_in ⟨by have : minK k ≤ 0 := by cases k <;> simp [minK]
                      have : (0 : Int) ≤ ((n / 2 ^ j * 2 ^ j : Nat) : Int) := Int.natCast_nonneg _
                      omega, by have : ((n / 2 ^ j * 2 ^ j : Nat) : Int) ≤ (n : Int) := Int.ofNat_le.2 hle
                                omega⟩]
  have hm := Nat.div_add_mod n (2 ^ j)
  rw [Nat.mul_comm] at hm
  have hc : ((n % 2 ^ j : Nat) : Int) = (n : Int) % 2 ^ j := by simp
  omega
theorem floorP_mono {a b : Int} {j : Nat} (h : a ≤ b) : a - a % 2 ^ j ≤ b - b % 2 ^ j := by
  have hp : (0 : Int) < 2 ^ j := Int.pow_pos (by omega)
  have h1 := Int.mul_ediv_add_emod a (2 ^ j)
  have h2 := Int.mul_ediv_add_emod b (2 ^ j)
  have h3 : a / 2 ^ j ≤ b / 2 ^ j := Int.ediv_le_ediv hp h
  have h4 : (2 : Int) ^ j * (a / 2 ^ j) ≤ 2 ^ j * (b / 2 ^ j) := Int.mul_le_mul_of_nonneg_left h3 (by omega)
  omega
theorem binR_in {op : BinOp} {k : IntKind} {x y la ha lb hb : Int} (hx : la ≤ x ∧ x ≤ ha) (hy : lb ≤ y ∧ y ≤ hb) : In (binZ op k x y) (binR op k la ha lb hb) := by
  unfold binR
  cases hs : (beqF la ha && beqF lb hb) with
  | true =>
    simp only [Bool.and_eq_true, beqF_eq, decide_eq_true_eq] at hs
    obtain ⟨rfl, rfl⟩ := hs
    obtain rfl : x = la := by omega
    obtain rfl : y = lb := by omega
    intro l u e
    have e : forceI (binF op k x y) (fun n => some (n, n)) = some (l, u) := e
    rw [forceI_eq, binF_eq] at e
    cases e
    exact ⟨Int.le_refl _, Int.le_refl _⟩
  | false =>
    show In _ (binR2 op k la ha lb hb (Nat.log2 (Int.toNat (Int.add lb 1))))
    generalize Nat.log2 (Int.toNat (Int.add lb 1)) = j
    unfold binR2
    cases h : (isAN op && (pos0 la && (leF ha (maxK k) && (beqF lb hb && (beqF (Int.add lb (.ofNat (nat_lit 1))) (.ofNat (Nat.pow (nat_lit 2) j)) && Nat.blt j (nat_lit 63)))))) with
    | false => exact binR0_in hx hy
    | true =>
      simp only [Bool.and_eq_true, pos0_eq, leF_eq, beqF_eq, decide_eq_true_eq] at h
      obtain ⟨ho, h1, h2, rfl, h4, _⟩ := h
      cases op <;> first | (cases ho; done) | skip
      obtain rfl : y = lb := by omega
      have hy2 : y = 2 ^ j - 1 := by
        have h4 : y + 1 = ((2 ^ j : Nat) : Int) := h4
        have : ((2 ^ j : Nat) : Int) = (2 : Int) ^ j := Int.natCast_pow 2 j
        omega
      intro l u e
      have e : forceI (floorP la j) (fun l => forceI (floorP ha j) fun h => some (l, h)) = some (l, u) := e
      rw [forceI_eq, forceI_eq] at e
      cases e
      rw [hy2, andNot_mask (by omega) (by omega)]
      have hc : ∀ a : Int, floorP a j = a - a % 2 ^ j := fun a => by
        show a - a % ((2 ^ j : Nat) : Int) = _
        rw [Int.natCast_pow]; rfl
      rw [hc, hc]
      exact ⟨floorP_mono hx.1, floorP_mono hx.2⟩
theorem rowB_in (ρ : Nat → Int) (a i : Nat) : 0 ≤ rowB ρ a i ∧ rowB ρ a i ≤ 255 := by
  have h := wrap_rng .u8 (ρ (rowIx a i))
  have h1 : minK .u8 = 0 := rfl
  have h2 : maxK .u8 = 255 := rfl
  unfold rowB
  omega
theorem rsZ_in (ρ : Nat → Int) (a p o : Nat) : ∀ n : Nat, 0 ≤ rsZ ρ a p o n ∧ rsZ ρ a p o n ≤ 65280 * n
  | 0 => by simp [rsZ]
  | n + 1 => by
    obtain ⟨h1, h2⟩ := rsZ_in ρ a p o n
    obtain ⟨h3, h4⟩ := rowB_in ρ a (o + n)
    unfold rsZ
    split <;> omega
theorem rngS_in {ρ : Nat → Int} {rg : List (Int × Int)} (hr : RgOk ρ rg) : ∀ e : SI, In (e.ev ρ) (rngS rg e) := by
  intro e
  induction e with
  | lit n => intro l h e; cases e; exact ⟨Int.le_refl _, Int.le_refl _⟩
  | var i => intro l h e; exact hr i l h e
  | bin op k a b iha ihb =>
    intro l h e
    obtain ⟨la, ha, e1, e2⟩ := opt1_some (show opt1 (rngS rg a) none (fun la ha => opt1 (rngS rg b) none fun lb hb => binR op k la ha lb hb) = some (l, h) from e)
    obtain ⟨lb, hb, e3, e4⟩ := opt1_some e2
    exact binR_in (iha _ _ e1) (ihb _ _ e3) _ _ e4
  | conv k a ih =>
    have hd : rngS rg (.conv k a) = opt1 (rngS rg a) (anyR k) fun l h => fitR k l h := rfl
    show In (k.wrap (a.ev ρ)) _
    rw [hd]
    cases hra : rngS rg a with
    | none => exact anyR_in k _
    | some r => exact fitR_in (ih r.1 r.2 hra)
  | fold a ih =>
    intro l h e
    obtain ⟨la, ha, e1, e2⟩ := opt1_some (show opt1 (rngS rg a) none (fun l h => Bool.rec (motive := fun _ => Option (Int × Int)) none (Bool.rec (motive := fun _ => Option (Int × Int)) (some (Bool.rec (motive := fun _ => Int) (.ofNat (nat_lit 0)) (.ofNat (nat_lit 1)) (leF (.ofNat (nat_lit 1)) l), .ofNat (nat_lit 65535))) (some (l, h)) (leF h (.ofNat (nat_lit 65535)))) (pos0 l && leF h (maxK .i64))) = some (l, h) from e)
    have hin := ih la ha e1
    cases hp : (pos0 la && leF ha (maxK .i64)) with
    | false => rw [hp] at e2; cases e2
    | true =>
      rw [hp] at e2
      simp only [Bool.and_eq_true, pos0_eq, leF_eq, decide_eq_true_eq, maxK, Int.ofNat_eq_natCast] at hp
      cases hq : leF ha (.ofNat (nat_lit 65535)) with
      | true =>
        rw [hq] at e2
        have e2 := Option.some.inj (show some (la, ha) = some (l, h) from e2)
        have e3 : la = l := congrArg Prod.fst e2
        have e4 : ha = h := congrArg Prod.snd e2
        rw [leF_eq, decide_eq_true_eq] at hq
        simp only [Int.ofNat_eq_natCast] at hq
        show l ≤ foldZ (a.ev ρ) ∧ foldZ (a.ev ρ) ≤ h
        rw [foldZ, if_neg (by omega)]
        omega
      | false =>
        rw [hq] at e2
        have e2 : some (Bool.rec (motive := fun _ => Int) (.ofNat (nat_lit 0)) (.ofNat (nat_lit 1)) (leF (.ofNat (nat_lit 1)) la), Int.ofNat 65535) = some (l, h) := e2
        have := foldZ_in ((a.ev ρ).toNat + 1) (a.ev ρ) (by omega) (by omega) (by omega)
        have hpos := foldZ_pos ((a.ev ρ).toNat + 1) (a.ev ρ)
        cases h1 : leF (.ofNat (nat_lit 1)) la with
        | true =>
          rw [h1] at e2
          cases e2
          rw [leF_eq, decide_eq_true_eq] at h1
          have h1 : (1 : Int) ≤ la := h1
          exact ⟨hpos (by omega) (by omega) (by omega), this.2⟩
        | false =>
          rw [h1] at e2
          cases e2
          exact ⟨this.1, this.2⟩
  | rs a p o n iho ihn =>
    intro l h e
    obtain ⟨lb, hb, e1, e2⟩ := opt1_some (show opt1 (rngS rg n) none (fun lb hb => Bool.rec (motive := fun _ => Option (Int × Int)) none (forceI (Int.mul hb (.ofNat (nat_lit 65280))) fun h => some (.ofNat (nat_lit 0), h)) (pos0 hb)) = some (l, h) from e)
    have hin := ihn lb hb e1
    cases hp : pos0 hb with
    | false => rw [hp] at e2; cases e2
    | true =>
      rw [hp] at e2
      have e2 : forceI (Int.mul hb (.ofNat (nat_lit 65280))) (fun h => some ((Int.ofNat 0, h) : Int × Int)) = some (l, h) := e2
      rw [forceI_eq] at e2
      cases e2
      rw [pos0_eq, decide_eq_true_eq] at hp
      obtain ⟨h1, h2⟩ := rsZ_in ρ a p (o.ev ρ).toNat (n.ev ρ).toNat
      refine ⟨h1, ?_⟩
      show rsZ ρ a p (o.ev ρ).toNat (n.ev ρ).toNat ≤ hb * 65280
      have h3 : n.ev ρ ≤ hb := hin.2
      omega

theorem two_tests {p q b u v : Bool} (h : Bool.rec (motive := fun _ => Option Bool) (Bool.rec (motive := fun _ => Option Bool) none (some v) q) (some u) p = some b) : (p = true ∧ b = u) ∨ (q = true ∧ b = v) := by
  cases p with
  | true => cases h; exact .inl ⟨rfl, rfl⟩
  | false => cases q with
    | true => cases h; exact .inr ⟨rfl, rfl⟩
    | false => cases h
theorem one_test {p b u : Bool} (h : Bool.rec (motive := fun _ => Option Bool) none (some u) p = some b) : p = true ∧ b = u := by
  cases p with
  | true => cases h; exact ⟨rfl, rfl⟩
  | false => cases h
theorem cmpR_ok {op : BinOp} {x y la ha lb hb : Int} {b : Bool} (hx : la ≤ x ∧ x ≤ ha) (hy : lb ≤ y ∧ y ≤ hb) (h : cmpR op la ha lb hb = some b) : cmpZ op x y = b := by
  cases op
  case lss =>
    rcases two_tests h with ⟨h1, rfl⟩ | ⟨h1, rfl⟩ <;> simp only [leF_eq, bltF_eq, decide_eq_true_eq] at h1
    · exact decide_eq_true (by omega)
    · exact decide_eq_false (by omega)
  case leq =>
    rcases two_tests h with ⟨h1, rfl⟩ | ⟨h1, rfl⟩ <;> simp only [leF_eq, bltF_eq, decide_eq_true_eq] at h1
    · exact decide_eq_true (by omega)
    · exact decide_eq_false (by omega)
  case gtr =>
    rcases two_tests h with ⟨h1, rfl⟩ | ⟨h1, rfl⟩ <;> simp only [leF_eq, bltF_eq, decide_eq_true_eq] at h1
    · exact decide_eq_true (by omega)
    · exact decide_eq_false (by omega)
  case geq =>
    rcases two_tests h with ⟨h1, rfl⟩ | ⟨h1, rfl⟩ <;> simp only [leF_eq, bltF_eq, decide_eq_true_eq] at h1
    · exact decide_eq_true (by omega)
    · exact decide_eq_false (by omega)
  case eql =>
    rcases two_tests h with ⟨h1, rfl⟩ | ⟨h1, rfl⟩
    · simp only [Bool.or_eq_true, bltF_eq, decide_eq_true_eq] at h1
      exact beq_eq_false_iff_ne.2 (by omega)
    · simp only [Bool.and_eq_true, leF_eq, beqF_eq, decide_eq_true_eq] at h1
      exact beq_iff_eq.2 (by omega)
  case neq =>
    rcases two_tests h with ⟨h1, rfl⟩ | ⟨h1, rfl⟩
    · simp only [Bool.or_eq_true, bltF_eq, decide_eq_true_eq] at h1
      exact bne_iff_ne.2 (by omega)
    · simp only [Bool.and_eq_true, leF_eq, beqF_eq, decide_eq_true_eq] at h1
      exact bne_eq_false_iff_eq.2 (by omega)
  all_goals cases h
theorem linR_ok {ρ : Nat → Int} {rg : List (Int × Int)} (hr : RgOk ρ rg) {α : Type} {a : SI} {κ : SI → Int → α} {x : α} (h : linR rg a κ = x) : ∃ y c, κ y c = x ∧ a.ev ρ = y.ev ρ + c := by
  unfold linR at h
  split at h
  · rename_i k y c
    split at h
    · rename_i r hy
      rw [forceI_eq, forceI_eq] at h
      have hin := rngS_in hr y r.1 r.2 hy
      cases hb : (leF (minK k) (Int.add r.1 c) && leF (Int.add r.2 c) (maxK k)) with
      | false => rw [hb] at h; exact ⟨_, _, h, by simp⟩
      | true =>
        rw [hb] at h
        simp only [Bool.and_eq_true, leF_eq, decide_eq_true_eq, show ∀ a b : Int, Int.add a b = a + b from fun _ _ => rfl] at hb
        exact ⟨_, _, h, wrap_in (k := k) ⟨by show minK k ≤ y.ev ρ + c; omega, by show y.ev ρ + c ≤ maxK k; omega⟩⟩
    · exact ⟨_, _, h, by simp⟩
  · exact ⟨_, _, h, by simp⟩
theorem strip_ev {ρ : Nat → Int} {rg : List (Int × Int)} (hr : RgOk ρ rg) : ∀ e : SI, (strip rg e).ev ρ = e.ev ρ := by
  intro e
  induction e with
  | conv k a ih =>
    show (opt1' (rngS rg a) (.conv k a) fun l h => Bool.rec (motive := fun _ => SI) (.conv k a) (strip rg a) (leF (minK k) l && leF h (maxK k))).ev ρ = _
    cases hra : rngS rg a with
    | none => rfl
    | some r =>
      show (Bool.rec (motive := fun _ => SI) (.conv k a) (strip rg a) (leF (minK k) r.1 && leF r.2 (maxK k))).ev ρ = _
      cases hb : (leF (minK k) r.1 && leF r.2 (maxK k)) with
      | false => rfl
      | true =>
        simp only [Bool.and_eq_true, leF_eq, decide_eq_true_eq] at hb
        have := rngS_in hr a r.1 r.2 hra
        show (strip rg a).ev ρ = k.wrap (a.ev ρ)
        rw [ih, wrap_in ⟨by omega, by omega⟩]
  | _ => rfl
theorem cmpZ_shift {op : BinOp} (h : isCmp op = true) (v a b : Int) : cmpZ op (v + a) (v + b) = cmpZ op a b := by
  cases op <;> simp [isCmp] at h <;> simp [cmpZ] <;> (try (rw [Bool.eq_iff_iff]; simp; done)) <;> (try omega)
theorem decR_ok {ρ : Nat → Int} {rg : List (Int × Int)} (hr : RgOk ρ rg) : ∀ {c : SB} {b : Bool}, decR rg c = some b → c.ev ρ = b := by
  intro c
  induction c with
  | lit b => intro b h; cases h
  | cmp op x y =>
    intro b h
    have h : decC rg op x y = some b := h
    unfold decC at h
    show cmpZ op (x.ev ρ) (y.ev ρ) = b
    split at h
    · rename_i b' hb
      cases h
      obtain ⟨la, ha, e1, e2⟩ := opt1_some hb
      obtain ⟨lb, hb, e3, e4⟩ := opt1_some e2
      exact cmpR_ok (rngS_in hr x _ _ e1) (rngS_in hr y _ _ e3) e4
    · obtain ⟨x', cx, h1, ex⟩ := linR_ok hr h
      obtain ⟨y', cy, h2, ey⟩ := linR_ok hr h1
      cases hb : (SI.beq x' y' && isCmp op) with
      | false => rw [hb] at h2; cases h2
      | true =>
        rw [hb] at h2
        simp only [Bool.and_eq_true] at hb
        have h2 : forceB (cmpF op cx cy) (fun c => some c) = some b := h2
        rw [forceB_eq, cmpF_eq] at h2
        cases h2
        have hxy := SI.beq_eq _ _ hb.1
        subst hxy
        rw [strip_ev hr] at ex ey
        rw [ex, ey]
        exact cmpZ_shift hb.2 _ _ _
  | not a ih =>
    intro b h
    cases ha : decR rg a with
    | none =>
      have h : Option.rec (motive := fun _ => Option Bool) none (fun b => some (notF b)) (decR rg a) = some b := h
      rw [ha] at h
      cases h
    | some d =>
      have h : Option.rec (motive := fun _ => Option Bool) none (fun b => some (notF b)) (decR rg a) = some b := h
      rw [ha] at h
      have h : some (notF d) = some b := h
      cases h
      show (!(a.ev ρ)) = notF d
      rw [ih ha, notF_eq]
theorem xorB_eq (b f : Bool) : xorB b f = Bool.xor b f := by cases b <;> cases f <;> rfl
theorem normC_ok (op : BinOp) (a b : SI) (ρ : Nat → Int) : Bool.xor ((normC op a b).1.ev ρ) (normC op a b).2 = cmpZ op (a.ev ρ) (b.ev ρ) := by
  unfold normC
  generalize ha : a.ev ρ = x
  generalize hb : b.ev ρ = y
  have h1 : decide (x ≤ y) = !decide (y < x) := by
    by_cases h : x ≤ y
    · rw [decide_eq_true h, decide_eq_false (by omega : ¬ y < x)]; rfl
    · rw [decide_eq_false h, decide_eq_true (by omega : y < x)]; rfl
  have h2 : decide (x ≥ y) = !decide (x < y) := by
    by_cases h : y ≤ x
    · rw [decide_eq_true (show x ≥ y from h), decide_eq_false (by omega : ¬ x < y)]; rfl
    · rw [decide_eq_false (show ¬ x ≥ y from h), decide_eq_true (by omega : x < y)]; rfl
  cases op <;> simp only [SB.ev, cmpZ, ha, hb, Bool.xor_true, Bool.xor_false, h1, h2] <;> rfl
theorem normB_ok {ρ : Nat → Int} {rg : List (Int × Int)} (hr : RgOk ρ rg) : ∀ c : SB, Bool.xor ((normB rg c).1.ev ρ) (normB rg c).2 = c.ev ρ
  | .lit b => by show Bool.xor b false = b; simp
  | .cmp op a b => by
    show Bool.xor ((normC op (strip rg a) (strip rg b)).1.ev ρ) _ = cmpZ op (a.ev ρ) (b.ev ρ)
    rw [← strip_ev hr a, ← strip_ev hr b]
    exact normC_ok op _ _ ρ
  | .not a => by
    have := normB_ok hr a
    show Bool.xor ((normB rg a).1.ev ρ) (notF (normB rg a).2) = !(a.ev ρ)
    rw [← this, notF_eq]
    cases (normB rg a).1.ev ρ <;> cases (normB rg a).2 <;> rfl
theorem decN_inv {pc : PC} {c : SB} {f : Bool} {κ : Bool → PC → R} (h : decN pc κ c f ∈ D) : ∃ b pc', κ (Bool.xor b f) pc' ∈ D ∧ PcExt pc pc' ∧ ∀ ρ, Holds ρ pc' → c.ev ρ = b := by
  unfold decN at h
  split at h
  · rename_i b hb
    rw [xorB_eq] at h
    exact ⟨b, pc, h, .refl _, fun ρ hρ => lookB_inv hb hρ.l⟩
  · obtain ⟨s1, s2, h1⟩ := partS_inv h
    rcases fork_inv h1 with ⟨_, h2⟩ | ⟨_, h2⟩
    · have h3 := brS_inv h2
      rw [xorB_eq] at h3
      exact ⟨_, _, h3, ⟨⟨[(c, _)], rfl⟩, rfl⟩, fun ρ hρ => hρ.l (c, _) (List.mem_cons_self ..)⟩
    · have h3 := brS_inv h2
      rw [xorB_eq] at h3
      exact ⟨_, _, h3, ⟨⟨[(c, _)], rfl⟩, rfl⟩, fun ρ hρ => hρ.l (c, _) (List.mem_cons_self ..)⟩
theorem decP_inv {pc : PC} {c : SB} {κ : Bool → PC → R} (h : decP pc c κ ∈ D) : ∃ b pc', κ b pc' ∈ D ∧ PcExt pc pc' ∧ ∀ ρ, Holds ρ pc' → c.ev ρ = b := by
  unfold decP at h
  split at h
  · rename_i b hb
    exact ⟨b, pc, h, .refl _, fun ρ hρ => decR_ok hρ.rg hb⟩
  split at h
  · rename_i b hb
    exact ⟨b, pc, h, .refl _, fun ρ hρ => lookB_inv hb hρ.l⟩
  · split at h
    rename_i c' f hc
    obtain ⟨b, pc', h1, hx, h2⟩ := decN_inv h
    refine ⟨_, pc', h1, hx, fun ρ hρ => ?_⟩
    have hr : RgOk ρ pc.rg := by rw [← hx.rg]; exact hρ.rg
    have := normB_ok hr c
    rw [hc] at this
    rw [← this, h2 ρ hρ]
theorem decK_inv {pc : PC} {c : SB} {κ : Bool → PC → R} (h : decK pc c κ ∈ D) : ∃ b pc', κ b pc' ∈ D ∧ PcExt pc pc' ∧ ∀ ρ, Holds ρ pc' → c.ev ρ = b := by
  cases c with
  | lit b => exact ⟨_, pc, h, .refl _, fun _ _ => rfl⟩
  | cmp op a b => exact decP_inv h
  | not a => exact decP_inv h

theorem getK_inv {t : Ts} {d : Nat} {κ : AV → R} (h : t.getK d κ ∈ D) : ∃ v, t.get d = some v ∧ κ v ∈ D := by
  rw [Ts.getK_eq] at h
  split at h
  · exact ⟨_, by assumption, h⟩
  · cases h
theorem opd_inv {t : Ts} {o : Operand} {κ : AV → R} (h : opd t o κ ∈ D) : ∃ v, κ v ∈ D ∧ ∀ {φ ρ sz a}, GA φ ρ t sz a → conc φ ρ v = some (a.eval o) := by
  cases o with
  | tmp d =>
    obtain ⟨v, h1, h2⟩ := getK_inv (show t.getK d κ ∈ D from h)
    exact ⟨v, h2, fun hg => hg.tm d v h1⟩
  | const v => exact ⟨ofValue v, h, fun _ => conc_ofValue v⟩
  | global g => cases h
  | func f => exact ⟨_, h, fun _ => rfl⟩
theorem opds_inv {t : Ts} : ∀ {l : List Operand} {κ : List AV → R}, opds t l κ ∈ D → ∃ vs, κ vs ∈ D ∧ vs.length = l.length ∧ ∀ {φ ρ sz a}, GA φ ρ t sz a → concL φ ρ vs = some (l.map a.eval)
  | [], κ, h => ⟨[], h, rfl, fun _ => rfl⟩
  | o :: l, κ, h => by
    unfold opds at h
    obtain ⟨v, h1, hv⟩ := opd_inv h
    obtain ⟨vs, h2, hl, hvs⟩ := opds_inv h1
    exact ⟨v :: vs, h2, by simp [hl], fun hg => concL_cons.2 ⟨_, _, hv hg, hvs hg, rfl⟩⟩
end

/-! the model's side -/
section
variable {P : Program} {w : World}
theorem run_ti {T : TypeId} {i : TypeInfo} (h : P.info? T = some i) : (typeInfo T).run P w = .ok i w := by
  unfold typeInfo
  rw [Sem.run_bind]
  simp [program, Sem.run, h]
theorem run_isAgg {T : TypeId} {o : Option Nat} (h : aggOf P T = some o) : (isAgg T).run P w = .ok o.isSome w := by
  unfold aggOf at h
  unfold isAgg
  split at h
  · rename_i fs hu
    rw [Sem.run_bind, run_underlying hu]
    simp only [Option.map_eq_some_iff] at h
    obtain ⟨i, _, rfl⟩ := h
    rfl
  · rename_i n e hu
    rw [Sem.run_bind, run_underlying hu]
    simp only [Option.map_eq_some_iff] at h
    obtain ⟨i, _, rfl⟩ := h
    rfl
  · rename_i d h1 h2 hu
    rw [Sem.run_bind, run_underlying hu]
    cases h
    simp only [Result.andThen_ok]
    cases d <;> first | rfl | exact absurd hu (by first | exact h1 _ | exact h2 _ _)
  · cases h
theorem agg_size {T : TypeId} {n : Nat} (h : aggOf P T = some (some n)) : sizeA P T = some n := by
  unfold aggOf at h
  split at h
  · simpa [sizeA] using h
  · simpa [sizeA] using h
  · cases h
  · cases h
theorem run_size {T : TypeId} {n : Nat} (h : sizeA P T = some n) : (sizeOf T).run P w = .ok n w := by
  simp only [sizeA, Option.map_eq_some_iff] at h
  obtain ⟨i, hi, rfl⟩ := h
  simp [sizeOf, Sem.run_bind, run_ti hi]
theorem run_zero {T : TypeId} {z : AV} (h : zeroA P T = some z) : ∃ v, (zeroValue T).run P w = .ok v w ∧ ofValue v = z := by
  unfold zeroA at h
  split at h
  · rename_i i hi
    simp only [Option.map_eq_some_iff] at h
    obtain ⟨v, hv, rfl⟩ := h
    exact ⟨v, by simp [zeroValue, Sem.run_bind, run_ti hi, hv], rfl⟩
  · cases h
end

theorem add_plain (b o n : Nat) : (⟨b, o, none⟩ : Addr).add n = ⟨b, o + n, none⟩ := by
  unfold Addr.add
  split
  · subst_vars; rfl
  · rfl
theorem CelOk.cel {P : Program} {φ : List Pl} {ρ : Nat → Int} {w : World} {p : Pl} {arr : Array Value} {fz : Nat × Nat} {n : Nat} {c : Tr AV} {d : Option AV} {T : TypeId} {row : Bool} (h : CelOk P φ ρ w p arr fz n c d T row) {i : Nat} (hi : i < n) :
    ∃ v x, celA c d i = some v ∧ conc φ ρ v = some x ∧ w.cell? ⟨p.blk, p.sh + i, none⟩ = some x ∧ oneB v = true := by
  obtain ⟨v, x, h1, h2, h3, h4⟩ := h.cell i hi
  refine ⟨v, x, h1, h2, ?_, h4⟩
  unfold World.cell?
  simp [h.blk, h3]

/-! what an operation gives -/
def RunV (P : Program) (φ : List Pl) (ρ : Nat → Int) (w : World) (m : Sem Value) (v : AV) : Prop := ∃ x, conc φ ρ v = some x ∧ m.run P w = .ok x w
theorem RunV.value {P : Program} {φ : List Pl} {ρ : Nat → Int} {w : World} {m : Sem Value} {v : AV} (h : RunV P φ ρ w m v) : ∃ x, conc φ ρ v = some x ∧ (m >>= fun y => pure (Next.value y)).run P w = .ok (.value x) w := by
  obtain ⟨x, h1, h2⟩ := h
  exact ⟨x, h1, by rw [Sem.run_bind, h2]; rfl⟩

section
variable {P : Program} {D : Dn} {h : Tr AObj}
theorem objK_inv {id : Nat} {κ : OK} (hD : objK h id κ ∈ D) : ∃ n c d T r, h.get id = some (.cells n c d T r) ∧ κ n c d T r ∈ D := by
  obtain ⟨o, ho, h1⟩ := optK_inv hD
  cases o with
  | cells n c d T r => exact ⟨_, _, _, _, _, ho, h1⟩
  | map es c => cases h1
  | iter m b l n => cases h1
  | rope cs T r => cases h1
  | dead => cases h1
theorem cellK_inv {c : Tr AV} {d : Option AV} {off : Nat} {κ : AV → R} (hD : cellK c d off κ ∈ D) : ∃ v, celA c d off = some v ∧ κ v ∈ D := by
  unfold cellK at hD
  unfold celA
  cases hc : c.get off with
  | none => rw [hc] at hD; obtain ⟨v, h1, h2⟩ := optK_inv hD; exact ⟨v, h1, h2⟩
  | some v => rw [hc] at hD; exact ⟨v, rfl, hD⟩
theorem ldN_inv {c : Tr AV} {d : Option AV} : ∀ {m off : Nat} {κ : List AV → R}, ldN c d off m κ ∈ D → ∃ l, l.length = m ∧ κ l ∈ D ∧ ∀ i, i < m → celA c d (off + i) = l[i]?
  | 0, off, κ, h => ⟨[], rfl, h, fun i hi => absurd hi (Nat.not_lt_zero _)⟩
  | m + 1, off, κ, h => by
    have h : cellK c d off (fun v => ldN c d (off + 1) m fun l => κ (v :: l)) ∈ D := h
    obtain ⟨v, hv, h1⟩ := cellK_inv h
    obtain ⟨l, hl, h2, hc⟩ := ldN_inv h1
    refine ⟨v :: l, by simp [hl], h2, fun i hi => ?_⟩
    cases i with
    | zero => simpa using hv
    | succ i =>
      have := hc i (by omega)
      rw [show off + (i + 1) = off + 1 + i by omega, this]
      simp
/-- cells of an object, in a row -/
theorem cells_row {φ : List Pl} {ρ : Nat → Int} {w : World} {p : Pl} {arr : Array Value} {fz : Nat × Nat} {n : Nat} {c : Tr AV} {d : Option AV} {T : TypeId} {row : Bool} (hc : CelOk P φ ρ w p arr fz n c d T row) :
    ∀ (l : List AV) (off : Nat), off + l.length ≤ n → (∀ i, i < l.length → celA c d (off + i) = l[i]?) → ∃ xs, concL φ ρ l = some xs ∧ ∀ j x, xs[j]? = some x → w.cell? ((⟨p.blk, p.sh + off, none⟩ : Addr).add j) = some x
  | [], off, _, _ => ⟨[], rfl, fun j x h => by simp at h⟩
  | v :: l, off, hle, hl => by
    simp only [List.length_cons] at hle hl
    obtain ⟨v', x, h1, h2, h3, _⟩ := hc.cel (i := off) (by omega)
    have h0 := hl 0 (by omega)
    simp only [Nat.add_zero, List.getElem?_cons_zero] at h0
    rw [h0] at h1
    cases h1
    obtain ⟨xs, hxs, hcx⟩ := cells_row hc l (off + 1) (by omega) fun i hi => by
      have := hl (i + 1) (by omega)
      rw [show off + 1 + i = off + (i + 1) by omega, this]
      simp
    refine ⟨x :: xs, concL_cons.2 ⟨x, xs, h2, hxs, rfl⟩, fun j y hy => ?_⟩
    cases j with
    | zero => simp at hy; subst hy; simpa [add_plain] using h3
    | succ j =>
      simp at hy
      have := hcx j y hy
      rw [add_plain] at this ⊢
      rw [← this]
      congr 2; omega

theorem lenSI_eq : ∀ l : List SI, lenSI l = l.length
  | [] => rfl
  | _ :: l => congrArg Nat.succ (lenSI_eq l)
theorem dropS_inv {D : Dn} {κ : List SI → R} : ∀ {n : Nat} {l : List SI}, dropS l n κ ∈ D → κ (l.drop n) ∈ D ∧ n ≤ l.length
  | 0, l, h => ⟨h, Nat.zero_le _⟩
  | n + 1, [], h => by cases h
  | n + 1, _ :: l, h => by
    obtain ⟨h1, h2⟩ := dropS_inv (n := n) (l := l) h
    exact ⟨h1, by simp only [List.length_cons]; omega⟩
theorem ropeZ_cons (ρ : Nat → Int) (c : Ch) (cs : List Ch) : ropeZ ρ (c :: cs) = c.zs ρ ++ ropeZ ρ cs := by simp [ropeZ]
theorem ropeZ_nil (ρ : Nat → Int) : ropeZ ρ [] = [] := rfl
theorem byteK_inv {D : Dn} {κ : SI → R} : ∀ {cs : List Ch} {i : Nat}, byteK cs i κ ∈ D → ∃ e, κ e ∈ D ∧ ∀ ρ, (ropeZ ρ cs)[i]? = some (e.ev ρ)
  | [], i, h => by cases h
  | .fil _ _ :: cs, i, h => by cases h
  | .row _ _ _ :: cs, i, h => by cases h
  | .bs l :: cs, i, h => by
    have h : Bool.rec (motive := fun _ => R) (forceN (Nat.sub i (lenSI l)) fun i => byteK cs i κ) (dropS l i fun l => List.rec (motive := fun _ => R) (.fail 439) (fun e _ _ => κ e) l) (Nat.blt i (lenSI l)) ∈ D := h
    rcases brec_cases h with ⟨hb, h1⟩ | ⟨hb, h1⟩
    · rw [natBlt, lenSI_eq] at hb
      have hb := of_decide_eq_true hb
      obtain ⟨h2, _⟩ := dropS_inv h1
      cases hd : l.drop i with
      | nil => rw [hd] at h2; cases h2
      | cons e r =>
        rw [hd] at h2
        refine ⟨e, h2, fun ρ => ?_⟩
        have he : l[i]? = some e := by
          have := congrArg List.head? hd
          rw [List.head?_drop] at this
          exact this
        rw [ropeZ_cons, List.getElem?_append_left (by simp [Ch.zs]; exact hb)]
        simp [Ch.zs, he]
    · rw [natBlt, lenSI_eq] at hb
      have hb := of_decide_eq_false hb
      rw [forceN_eq] at h1
      obtain ⟨e, h2, h3⟩ := byteK_inv h1
      refine ⟨e, h2, fun ρ => ?_⟩
      rw [ropeZ_cons, List.getElem?_append_right (by simp [Ch.zs]; omega)]
      have := h3 ρ
      rw [lenSI_eq] at this
      simpa [Ch.zs] using this
theorem load_sound {T : TypeId} {v : AV} {κ : AV → R} (hD : loadA P h T v κ ∈ D) : ∃ u, κ u ∈ D ∧ ∀ {φ ρ w x}, Hp P φ ρ h w → conc φ ρ v = some x → RunV P φ ρ w (Instr.loadAt T x) u := by
  obtain ⟨o, ho, h1⟩ := optK_inv hD
  obtain ⟨id, off, rfl, h1⟩ := ptrV_inv (show ptrV v (nat_lit 16) (loadP h κ o) ∈ D from h1)
  have h1 : loadP h κ o id off ∈ D := h1
  unfold loadP at h1
  rw [forceN_eq] at h1
  obtain ⟨ob, hg, h1⟩ := optK_inv h1
  cases ob with
  | map es c => cases h1
  | iter m b l n => cases h1
  | dead => cases h1
  | rope cs T' r =>
    cases o with
    | some m => cases h1
    | none =>
      obtain ⟨e, h2, h3⟩ := byteK_inv (show byteK cs off (fun e => κ (.int .u8 e)) ∈ D from h1)
      refine ⟨_, h2, fun {φ ρ w x} hp hx => ?_⟩
      obtain ⟨p, arr, fz, hpl, hc⟩ := hp.obj _ _ hg
      simp only [conc, hpl, Option.map_some, Option.some.injEq] at hx
      subst hx
      refine ⟨.int .u8 (e.ev ρ), rfl, ?_⟩
      have hcell : w.cell? ⟨p.blk, p.sh + off, none⟩ = some (.int .u8 (e.ev ρ)) := by
        simp only [World.cell?, hc.blk]
        exact hc.cell off _ (h3 ρ)
      simp only [Instr.loadAt, Instr.sureAddr, loadVar, Sem.run_bind, Sem.run_pure, Result.andThen_ok, run_isAgg ho, Option.isSome_none, Bool.false_eq_true, if_false]
      simp [run_load, hcell]
  | cells n c d T' r =>
  have h2 : (Option.rec (motive := fun _ => OK) (ld1 κ off) (ldA κ off) o) n c d T' r ∈ D := h1
  cases o with
  | none =>
    have h2 : ld1 κ off n c d T' r ∈ D := h2
    unfold ld1 at h2
    obtain ⟨hlt, h3⟩ := brec_inv h2
    obtain ⟨u, hu, h4⟩ := cellK_inv h3
    refine ⟨u, h4, fun {φ ρ w x} hp hx => ?_⟩
    obtain ⟨p, arr, fz, hpl, hc⟩ := hp.obj _ _ hg
    simp only [conc, hpl, Option.map_some, Option.some.injEq] at hx
    subst hx
    rw [natBlt] at hlt
    obtain ⟨v', y, e1, e2, e3, _⟩ := hc.cel (of_decide_eq_true hlt)
    rw [hu] at e1; cases e1
    refine ⟨y, e2, ?_⟩
    simp only [Instr.loadAt, Instr.sureAddr, loadVar, Sem.run_bind, Sem.run_pure, Result.andThen_ok, run_isAgg ho, Option.isSome_none, Bool.false_eq_true, if_false]
    simp [run_load, e3]
  | some m =>
    have h2 : ldA κ off m n c d T' r ∈ D := h2
    unfold ldA at h2
    obtain ⟨hle, h3⟩ := brec_inv h2
    rw [natBle] at hle
    have hle := of_decide_eq_true hle
    obtain ⟨l, hl, h4, hcl⟩ := ldN_inv h3
    refine ⟨_, h4, fun {φ ρ w x} hp hx => ?_⟩
    obtain ⟨p, arr, fz, hpl, hc⟩ := hp.obj _ _ hg
    simp only [conc, hpl, Option.map_some, Option.some.injEq] at hx
    subst hx
    obtain ⟨xs, hxs, hcx⟩ := cells_row hc l off (by rw [hl]; exact hle) (by rw [hl]; exact hcl)
    refine ⟨.agg xs.toArray, by simp [conc, hxs], ?_⟩
    have hr := run_loadCells_list (P := P) (w := w) ⟨p.blk, p.sh + off, none⟩ xs hcx
    have hm : xs.length = m := by rw [concL_length hxs, hl]
    rw [hm] at hr
    simp only [Instr.loadAt, Instr.sureAddr, loadVar, Sem.run_bind, Sem.run_pure, Result.andThen_ok, run_isAgg ho, Option.isSome_some, if_true, run_size (agg_size ho), hr]
end

end Go.Proofs.YticednpolhnneaaGreat
