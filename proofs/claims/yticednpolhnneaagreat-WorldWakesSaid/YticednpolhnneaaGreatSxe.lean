/-
  A run reckoned ahead: quiet operations do what was reckoned (2).
-/
import Derived.Test.YticednpolhnneaaGreatSxy
set_option linter.unusedVariables false
set_option linter.unusedSimpArgs false
namespace Go.Proofs.YticednpolhnneaaGreat
open Go

section
variable {P : Program} {D : Dn} {h : Tr AObj} {w : World} {φ : List Pl} {ρ : Nat → Int}

/-! numbers -/
theorem binOp_arith {op : BinOp} {T : TypeId} {k : IntKind} {a b : Int} (hop : op = .add ∨ op = .sub ∨ op = .mul ∨ op = .and ∨ op = .or ∨ op = .xor ∨ op = .andNot) :
    (binOp op T (.int k a) (.int k b)).run P w = .ok (.int k (binZ op k a b)) w := by
  rcases hop with rfl | rfl | rfl | rfl | rfl | rfl | rfl <;> simp [binOp, Op.intArith, Op.intBits, binZ]
theorem binOp_div {op : BinOp} {T : TypeId} {k : IntKind} {a b : Int} (hop : op = .quo ∨ op = .rem) (hb : b ≠ 0) :
    (binOp op T (.int k a) (.int k b)).run P w = .ok (.int k (binZ op k a b)) w := by
  rcases hop with rfl | rfl <;> simp [binOp, Op.intDiv, binZ, hb]
theorem binOp_shift {op : BinOp} {T : TypeId} {k k' : IntKind} {a b : Int} (hop : op = .shl ∨ op = .shr) (hb : 0 ≤ b) :
    (binOp op T (.int k a) (.int k' b)).run P w = .ok (.int k (binZ op k a b)) w := by
  rcases hop with rfl | rfl <;> simp [binOp, Op.shift, binZ, Int.not_lt.2 hb]
theorem binOp_cmp {op : BinOp} {T : TypeId} {k : IntKind} {a b : Int} (hop : op = .eql ∨ op = .neq ∨ op = .lss ∨ op = .leq ∨ op = .gtr ∨ op = .geq) :
    (binOp op T (.int k a) (.int k b)).run P w = .ok (.bool (cmpZ op a b)) w := by
  rcases hop with rfl | rfl | rfl | rfl | rfl | rfl <;> simp [binOp, Op.intCmp, cmpZ]

/-- neither a struct nor a nil interface -/
def plainV : Value → Bool
  | .nilIface | .agg _ => false
  | _ => true
theorem eqGuard_plain {op : BinOp} {t : TypeId} {x y : Operand} {a b : Value} (h : plainV a = true) : (eqGuard op t x y a b).run P w = .ok () w := by
  unfold eqGuard
  cases op <;> (first | rfl | (cases a <;> first | (cases h; done) | (cases b <;> rfl)))
theorem eqGuard_not {op : BinOp} {t : TypeId} {x y : Operand} {a b : Value} (h : op ≠ .eql ∧ op ≠ .neq) : (eqGuard op t x y a b).run P w = .ok () w := by
  unfold eqGuard
  cases op <;> first | rfl | exact absurd rfl h.1 | exact absurd rfl h.2

theorem arith_sound {op : BinOp} {T : TypeId} {x y : AV} {κ : AV → R} (hop : op = .add ∨ op = .sub ∨ op = .mul ∨ op = .and ∨ op = .or ∨ op = .xor ∨ op = .andNot) (hD : arith op x y κ ∈ D) :
    ∃ u, κ u ∈ D ∧ ∀ {φ ρ w a b}, conc φ ρ x = some a → conc φ ρ y = some b → plainV a = true ∧ RunV P φ ρ w (binOp op T a b) u := by
  obtain ⟨k, e, rfl, h1⟩ := asInt_inv hD
  obtain ⟨k', e', rfl, h2⟩ := asInt_inv h1
  obtain ⟨hk, h3⟩ := brec_inv h2
  have hk := kindEq_of hk
  subst hk
  obtain ⟨r, hr, hev⟩ := binK_spec op k e e' (intK κ k)
  rw [hr] at h3
  refine ⟨_, h3, fun {φ ρ w a b} ha hb => ?_⟩
  simp only [conc, Option.some.injEq] at ha hb
  subst ha; subst hb
  exact ⟨rfl, _, rfl, by rw [hev]; exact binOp_arith hop⟩
theorem div_sound {op : BinOp} {T : TypeId} {x y : AV} {κ : AV → R} (hop : op = .quo ∨ op = .rem) (hD : divA op x y κ ∈ D) :
    ∃ u, κ u ∈ D ∧ ∀ {φ ρ w a b}, conc φ ρ x = some a → conc φ ρ y = some b → plainV a = true ∧ RunV P φ ρ w (binOp op T a b) u := by
  obtain ⟨k, e, rfl, h1⟩ := asInt_inv hD
  obtain ⟨k', e', rfl, h2⟩ := asInt_inv h1
  obtain ⟨hk, h3⟩ := brec_inv h2
  have hk := kindEq_of hk
  subst hk
  unfold nz at h3
  split at h3
  · rename_i n
    have h4 : beqF n 0 = false ∧ binK op k e (.lit n) (intK κ k) ∈ D := by
      rcases brec_cases h3 with ⟨_, h⟩ | h
      · cases h
      · exact h
    obtain ⟨r, hr, hev⟩ := binK_spec op k e (.lit n) (intK κ k)
    rw [hr] at h4
    refine ⟨_, h4.2, fun {φ ρ w a b} ha hb => ?_⟩
    simp only [conc, Option.some.injEq] at ha hb
    subst ha; subst hb
    refine ⟨rfl, _, rfl, ?_⟩
    rw [hev]
    have h0 := h4.1
    rw [beqF_eq] at h0
    exact binOp_div hop (by simpa [SI.ev] using of_decide_eq_false h0)
  · cases h3
theorem shift_sound {op : BinOp} {T : TypeId} {x y : AV} {κ : AV → R} (hop : op = .shl ∨ op = .shr) (hD : shiftA op x y κ ∈ D) :
    ∃ u, κ u ∈ D ∧ ∀ {φ ρ w a b}, conc φ ρ x = some a → conc φ ρ y = some b → plainV a = true ∧ RunV P φ ρ w (binOp op T a b) u := by
  obtain ⟨k, e, rfl, h1⟩ := asInt_inv hD
  obtain ⟨k', e', rfl, h2⟩ := asInt_inv h1
  unfold nn at h2
  split at h2
  · rename_i n
    obtain ⟨r, hr, hev⟩ := binK_spec op k e (.lit (.ofNat n)) (intK κ k)
    rw [hr] at h2
    refine ⟨_, h2, fun {φ ρ w a b} ha hb => ?_⟩
    simp only [conc, Option.some.injEq] at ha hb
    subst ha; subst hb
    refine ⟨rfl, _, rfl, ?_⟩
    rw [hev]
    exact binOp_shift hop (by simp [SI.ev])
  · cases h2
theorem compare_sound {op : BinOp} {T : TypeId} {x y : AV} {κ : AV → R} (hop : op = .eql ∨ op = .neq ∨ op = .lss ∨ op = .leq ∨ op = .gtr ∨ op = .geq) (hD : compare op x y κ ∈ D) :
    ∃ u, κ u ∈ D ∧ ∀ {φ ρ w a b}, conc φ ρ x = some a → conc φ ρ y = some b → plainV a = true ∧ RunV P φ ρ w (binOp op T a b) u := by
  obtain ⟨k, e, rfl, h1⟩ := asInt_inv hD
  obtain ⟨k', e', rfl, h2⟩ := asInt_inv h1
  obtain ⟨hk, h3⟩ := brec_inv h2
  have hk := kindEq_of hk
  subst hk
  obtain ⟨r, hr, hev⟩ := cmpK_spec op e e' (boolK κ)
  rw [hr] at h3
  refine ⟨_, h3, fun {φ ρ w a b} ha hb => ?_⟩
  simp only [conc, Option.some.injEq] at ha hb
  subst ha; subst hb
  exact ⟨rfl, _, rfl, by rw [hev]; exact binOp_cmp hop⟩

/-! equality of others -/
theorem equal_eq (T : TypeId) (x y : Value) : Op.equal T x y = Op.equalIn (9999 + 1) T x y := rfl
def eqTab (els : Sem Bool) (d : TypeDesc) (x y : Value) : Sem Bool := match d, x, y with
    | .bool, .bool a, .bool b => pure (a == b)
    | .pointer _, .pointer none, .pointer b => pure b.isNone
    | .pointer _, .pointer (some _), .pointer none => pure false
    | .pointer elem, .pointer (some a), .pointer (some b) => do
      if (← sizeOf elem) ≠ 0 then sameAddr a b
      else if a == b then pure true
      else pure ((← choose .zeroSizeEq) = 1)
    | .slice _, .slice none _ _, .slice b _ _ => pure b.isNone
    | .slice _, .slice (some _) _ _, .slice none _ _ => pure false
    | .map _ _, .map none, .map b => pure b.isNone
    | .map _ _, .map (some _), .map none => pure false
    | .func _ _ _, .nilFunc, .nilFunc => pure true
    | .func _ _ _, .nilFunc, .func _ _ _ | .func _ _ _, .func _ _ _, .nilFunc => pure false
    | _, _, _ => els
theorem equalIn_eq (n : Nat) (T : TypeId) (x y : Value) {d : TypeDesc} (hu : P.underlying T = some d) : (Op.equalIn (n + 1) T x y).run P w = (eqTab (Op.equalIn (n + 1) T x y) d x y).run P w := by
  unfold eqTab
  split <;> first | rfl | (rw [Op.equalIn, Sem.run_bind, run_underlying hu]; rfl)
theorem nilP_spec {x : AV} {b : Bool} (hn : nilP x = some b) {φ : List Pl} {ρ : Nat → Int} {a : Value} (ha : conc φ ρ x = some a) : (b = true ∧ a = .pointer none) ∨ (b = false ∧ ∃ p, a = .pointer (some p)) := by
  unfold nilP at hn
  split at hn <;> cases hn
  · simp only [conc, Option.map_eq_some_iff] at ha
    obtain ⟨p, _, rfl⟩ := ha
    exact .inr ⟨rfl, _, rfl⟩
  · simp only [conc, Option.some.injEq] at ha
    exact .inl ⟨rfl, ha.symm⟩
theorem ssl_conc {φ : List Pl} {ρ : Nat → Int} {id : Nat} {o0 off len : SI} {cap : Option SI} {a : Value} (ha : conc φ ρ (.ssl id o0 off len cap) = some a) : ∃ p n c, a = .slice (some p) n c := by
  simp only [conc, Option.map_eq_some_iff] at ha
  obtain ⟨p, _, rfl⟩ := ha
  cases cap with
  | some c => exact ⟨_, _, _, rfl⟩
  | none =>
    dsimp only
    split
    · exact ⟨_, _, _, rfl⟩
    · exact ⟨_, _, _, rfl⟩
theorem fsl_conc {φ : List Pl} {ρ : Nat → Int} {j : Nat} {o0 off len : SI} {a : Value} (ha : conc φ ρ (.fsl j o0 off len) = some a) : ∃ p n c, a = .slice (some p) n c := by
  simp only [conc] at ha
  split at ha
  · cases ha; exact ⟨_, _, _, rfl⟩
  · cases ha
theorem nilS_spec {x : AV} {b : Bool} (hn : nilS x = some b) {φ : List Pl} {ρ : Nat → Int} {a : Value} (ha : conc φ ρ x = some a) : (b = true ∧ ∃ n c, a = .slice none n c) ∨ (b = false ∧ ∃ p n c, a = .slice (some p) n c) := by
  unfold nilS at hn
  split at hn <;> cases hn
  · simp only [conc, Option.map_eq_some_iff] at ha
    obtain ⟨p, _, rfl⟩ := ha
    exact .inr ⟨rfl, _, _, _, rfl⟩
  · simp only [conc, Option.map_eq_some_iff] at ha
    obtain ⟨p, _, rfl⟩ := ha
    split
    · exact .inr ⟨rfl, _, _, _, rfl⟩
    · exact .inr ⟨rfl, _, _, _, rfl⟩
  · simp only [conc, Option.map_eq_some_iff] at ha
    obtain ⟨p, _, rfl⟩ := ha
    exact .inr ⟨rfl, _, _, _, rfl⟩
  · exact .inr ⟨rfl, ssl_conc ha⟩
  · exact .inr ⟨rfl, fsl_conc ha⟩
  · simp only [conc, Option.some.injEq] at ha
    exact .inl ⟨rfl, _, _, ha.symm⟩
theorem nilM_spec {x : AV} {b : Bool} (hn : nilM x = some b) {φ : List Pl} {ρ : Nat → Int} {a : Value} (ha : conc φ ρ x = some a) : (b = true ∧ a = .map none) ∨ (b = false ∧ ∃ p, a = .map (some p)) := by
  unfold nilM at hn
  split at hn <;> cases hn
  · simp only [conc, Option.map_eq_some_iff] at ha
    obtain ⟨p, _, rfl⟩ := ha
    exact .inr ⟨rfl, _, rfl⟩
  · simp only [conc, Option.some.injEq] at ha
    exact .inl ⟨rfl, ha.symm⟩
theorem nilF_spec {x : AV} {b : Bool} (hn : nilF x = some b) {φ : List Pl} {ρ : Nat → Int} {a : Value} (ha : conc φ ρ x = some a) : (b = true ∧ a = .nilFunc) ∨ (b = false ∧ ∃ f u v, a = .func f u v) := by
  unfold nilF at hn
  split at hn <;> cases hn
  · simp only [conc, Option.bind_eq_some_iff, Option.map_eq_some_iff] at ha
    obtain ⟨u, _, v, _, rfl⟩ := ha
    exact .inr ⟨rfl, _, _, _, rfl⟩
  · simp only [conc, Option.some.injEq] at ha
    exact .inl ⟨rfl, ha.symm⟩
theorem nil2_inv {nx ny : Option Bool} {both : R} {κ : SB → R} (hD : nil2 nx ny both κ ∈ D) : ∃ bx by_, nx = some bx ∧ ny = some by_ ∧ ((by_ = true ∧ κ (.lit bx) ∈ D) ∨ (by_ = false ∧ bx = true ∧ κ (.lit false) ∈ D) ∨ (by_ = false ∧ bx = false ∧ both ∈ D)) := by
  obtain ⟨bx, hx, h1⟩ := optK_inv hD
  obtain ⟨by_, hy, h2⟩ := optK_inv h1
  refine ⟨bx, by_, hx, hy, ?_⟩
  rcases brec_cases h2 with ⟨h, h3⟩ | ⟨h, h3⟩
  · exact .inl ⟨h, h3⟩
  · rcases brec_cases h3 with ⟨h', h4⟩ | ⟨h', h4⟩
    · exact .inr (.inl ⟨h, h', h4⟩)
    · exact .inr (.inr ⟨h, h', h4⟩)

/-- what '==' gives -/
def GuardOk (P : Program) (T : TypeId) (a b : Value) : Prop := plainV a = true ∨ (P.eqGuardType P.depth T = false ∧ ∃ xs ys, a = .agg xs ∧ b = .agg ys)
theorem GuardOk.run {op : BinOp} {T : TypeId} {x y : Operand} {a b : Value} (h : GuardOk P T a b) : (eqGuard op T x y a b).run P w = .ok () w := by
  rcases h with h | ⟨h, xs, ys, rfl, rfl⟩
  · exact eqGuard_plain h
  · exact run_eqGuard_agg w op T x y xs ys h
def RunB (P : Program) (ρ : Nat → Int) (w : World) (T : TypeId) (a b : Value) (u : SB) : Prop := GuardOk P T a b ∧ (∀ k n, a ≠ .int k n) ∧ (∀ k n, b ≠ .int k n) ∧ (∀ k n, a ≠ .float k n) ∧ (∀ k n m, a ≠ .complex k n m) ∧ ((∃ s t, a = .string s ∧ b = .string t ∧ u = .lit (s.toList == t.toList)) ∨ ((∀ s, a ≠ .string s) ∧ (Op.equal T a b).run P w = .ok (u.ev ρ) w))

theorem frozen_no {φ : List Pl} {ρ : Nat → Int} {w : World} {p : Pl} {arr : Array Value} {n : Nat} {c : Tr AV} {d : Option AV} {T : TypeId} {row : Bool} (hc : CelOk P φ ρ w p arr (0, 0) n c d T row) (o : Nat) : w.frozen? ⟨p.blk, o, none⟩ = false := by
  unfold World.frozen?
  simp [hc.blk]
theorem run_frozen (a : Addr) : (frozen a).run P w = .ok (w.frozen? a) w := rfl
theorem run_shape (r : Nat) : (shape r).run P w = .ok (w.shape? r) w := rfl
theorem sameAddr_plain {b b' o o' : Nat} {arr arr' : Array Value} {T T' : TypeId} (h1 : w.heap[b]? = some (.cells arr T (0, 0))) (h2 : w.heap[b']? = some (.cells arr' T' (0, 0))) :
    (sameAddr ⟨b, o, none⟩ ⟨b', o', none⟩).run P w = .ok (decide (b = b') && decide (o = o')) w := by
  have f1 : ∀ o, w.frozen? ⟨b, o, none⟩ = false := fun o => by unfold World.frozen?; simp [h1]
  have f2 : ∀ o, w.frozen? ⟨b', o, none⟩ = false := fun o => by unfold World.frozen?; simp [h2]
  have s1 : w.shape? b = some (T, arr.size) := by unfold World.shape?; simp [h1]
  have s2 : w.shape? b' = some (T', arr'.size) := by unfold World.shape?; simp [h2]
  unfold sameAddr
  by_cases hb : b = b'
  · subst hb
    simp
    by_cases ho : o = o' <;> simp [ho]
  · simp [hb, Sem.run_bind, run_frozen, f1, f2, noView, viewAt, run_shape, s1, s2, mayBeOne, stringish]

theorem eqB_spec {a b : SB} {κ : SB → R} (hD : eqB a b κ ∈ D) : ∃ u, κ u ∈ D ∧ ∀ ρ, u.ev ρ = (a.ev ρ == b.ev ρ) := by
  unfold eqB at hD
  split at hD
  · rename_i a
    cases a with
    | true => exact ⟨b, hD, fun ρ => by simp [SB.ev]⟩
    | false =>
      obtain ⟨e, he, hev⟩ := notK_spec b κ
      have hD : notK b κ ∈ D := hD
      rw [he] at hD
      exact ⟨e, hD, fun ρ => by rw [hev]; simp [SB.ev]⟩
  · split at hD
    · rename_i b
      cases b with
      | true => exact ⟨a, hD, fun ρ => by simp [SB.ev]⟩
      | false =>
        obtain ⟨e, he, hev⟩ := notK_spec a κ
        have hD : notK a κ ∈ D := hD
        rw [he] at hD
        exact ⟨e, hD, fun ρ => by rw [hev]; simp [SB.ev]⟩
    · cases hD
theorem eq_sound {T : TypeId} {x y : AV} {κ : SB → R} (hD : eqD P T h x y κ ∈ D) : ∃ u, κ u ∈ D ∧ ∀ {φ ρ w a b}, Hp P φ ρ h w → conc φ ρ x = some a → conc φ ρ y = some b → RunB P ρ w T a b u := by
  obtain ⟨d, hu, h1⟩ := optK_inv hD
  unfold eqA at h1
  split at h1
  · obtain ⟨c, h2, hg, hc⟩ := eqFlat_inv h1
    refine ⟨_, h2, fun {φ ρ w a b} hp ha hb => ?_⟩
    obtain ⟨⟨xs, ys, rfl, rfl⟩, hr⟩ := hc ha hb
    exact ⟨.inr ⟨hg, _, _, rfl, rfl⟩, by simp, by simp, by simp, by simp, .inr ⟨by simp, hr⟩⟩
  · obtain ⟨c, h2, hg, hc⟩ := eqFlat_inv h1
    refine ⟨_, h2, fun {φ ρ w a b} hp ha hb => ?_⟩
    obtain ⟨⟨xs, ys, rfl, rfl⟩, hr⟩ := hc ha hb
    exact ⟨.inr ⟨hg, _, _, rfl, rfl⟩, by simp, by simp, by simp, by simp, .inr ⟨by simp, hr⟩⟩
  · split at h1
    · split at h1
      · obtain ⟨u, h2, hev⟩ := eqB_spec h1
        refine ⟨u, h2, fun {φ ρ w a b} hp ha hb => ?_⟩
        simp only [conc, Option.some.injEq] at ha hb
        subst ha; subst hb
        refine ⟨.inl rfl, by simp, by simp, by simp, by simp, .inr ⟨by simp, ?_⟩⟩
        rw [equal_eq, equalIn_eq 9999 T _ _ hu, hev]
        rfl
      · cases h1
    · cases h1
  · rename_i e
    rcases brec_cases h1 with ⟨_, h⟩ | ⟨hsz, h2⟩
    · cases h
    have hsz' : ∃ n, sizeA P e = some n ∧ n ≠ 0 := by
      cases hs : sizeA P e with
      | none => rw [hs] at hsz; cases hsz
      | some n =>
        rw [hs] at hsz
        have hsz : Nat.beq n 0 = false := hsz
        rw [natBeq] at hsz
        exact ⟨n, rfl, of_decide_eq_false hsz⟩
    obtain ⟨n, hn, hn0⟩ := hsz'
    obtain ⟨bx, by_, hx, hy, hc⟩ := nil2_inv h2
    rcases hc with ⟨rfl, h3⟩ | ⟨rfl, rfl, h3⟩ | ⟨rfl, rfl, h3⟩
    · refine ⟨_, h3, fun {φ ρ w a b} hp ha hb => ?_⟩
      rcases nilP_spec hx ha with ⟨rfl, rfl⟩ | ⟨rfl, p, rfl⟩ <;> rcases nilP_spec hy hb with ⟨_, rfl⟩ | ⟨h, _⟩ <;> first | (cases h; done) |
        exact ⟨.inl rfl, by simp, by simp, by simp, by simp, .inr ⟨by simp, by rw [equal_eq, equalIn_eq 9999 T _ _ hu]; rfl⟩⟩
    · refine ⟨_, h3, fun {φ ρ w a b} hp ha hb => ?_⟩
      rcases nilP_spec hx ha with ⟨_, rfl⟩ | ⟨h, _⟩ <;> first | (cases h; done) | skip
      rcases nilP_spec hy hb with ⟨h, _⟩ | ⟨_, p, rfl⟩ <;> first | (cases h; done) | skip
      exact ⟨.inl rfl, by simp, by simp, by simp, by simp, .inr ⟨by simp, by rw [equal_eq, equalIn_eq 9999 T _ _ hu]; rfl⟩⟩
    · unfold ptrEq at h3
      split at h3
      · rename_i i o
        split at h3
        · rename_i j q
          obtain ⟨n1, c1, d1, T1, r1, g1, h4⟩ := objK_inv h3
          obtain ⟨n2, c2, d2, T2, r2, g2, h5⟩ := objK_inv h4
          rcases brec_cases h5 with ⟨_, h⟩ | ⟨hr, h6⟩
          · cases h
          simp only [Bool.or_eq_false_iff] at hr
          refine ⟨_, h6, fun {φ ρ w a b} hp ha hb => ?_⟩
          obtain ⟨p1, arr1, fz1, hp1, hc1⟩ := hp.obj _ _ g1
          obtain ⟨p2, arr2, fz2, hp2, hc2⟩ := hp.obj _ _ g2
          obtain ⟨s1, _, rfl, _⟩ := hc1.fix hr.1
          obtain ⟨s2, _, rfl, _⟩ := hc2.fix hr.2
          simp only [conc, hp1, hp2, Option.map_some, Option.some.injEq, s1, s2, Nat.zero_add] at ha hb
          subst ha; subst hb
          refine ⟨.inl rfl, by simp, by simp, by simp, by simp, .inr ⟨by simp, ?_⟩⟩
          rw [equal_eq, equalIn_eq 9999 T _ _ hu]
          simp only [eqTab, Sem.run_bind, run_size hn, Result.andThen_ok, ne_eq, hn0, not_false_eq_true, if_true]
          rw [sameAddr_plain hc1.blk hc2.blk]
          have hb : decide (p1.blk = p2.blk) = decide (i = j) := by
            congr 1
            apply propext
            constructor
            · intro e
              exact hp.sep i j _ _ p1 p2 g1 g2 rfl rfl hp1 hp2 e
            · rintro rfl
              rw [hp1] at hp2
              cases hp2; rfl
          rw [hb]
          simp [SB.ev, natBeq]
        · cases h3
      · cases h3
  · obtain ⟨bx, by_, hx, hy, hc⟩ := nil2_inv h1
    rcases hc with ⟨rfl, h3⟩ | ⟨rfl, rfl, h3⟩ | ⟨rfl, rfl, h3⟩
    · refine ⟨_, h3, fun {φ ρ w a b} hp ha hb => ?_⟩
      rcases nilS_spec hx ha with ⟨rfl, n, c, rfl⟩ | ⟨rfl, p, n, c, rfl⟩ <;> rcases nilS_spec hy hb with ⟨_, n', c', rfl⟩ | ⟨h, _⟩ <;> first | (cases h; done) |
        exact ⟨.inl rfl, by simp, by simp, by simp, by simp, .inr ⟨by simp, by rw [equal_eq, equalIn_eq 9999 T _ _ hu]; rfl⟩⟩
    · refine ⟨_, h3, fun {φ ρ w a b} hp ha hb => ?_⟩
      rcases nilS_spec hx ha with ⟨_, n, c, rfl⟩ | ⟨h, _⟩ <;> first | (cases h; done) | skip
      rcases nilS_spec hy hb with ⟨h, _⟩ | ⟨_, p, n', c', rfl⟩ <;> first | (cases h; done) | skip
      exact ⟨.inl rfl, by simp, by simp, by simp, by simp, .inr ⟨by simp, by rw [equal_eq, equalIn_eq 9999 T _ _ hu]; rfl⟩⟩
    · cases h3
  · obtain ⟨bx, by_, hx, hy, hc⟩ := nil2_inv h1
    rcases hc with ⟨rfl, h3⟩ | ⟨rfl, rfl, h3⟩ | ⟨rfl, rfl, h3⟩
    · refine ⟨_, h3, fun {φ ρ w a b} hp ha hb => ?_⟩
      rcases nilM_spec hx ha with ⟨rfl, rfl⟩ | ⟨rfl, p, rfl⟩ <;> rcases nilM_spec hy hb with ⟨_, rfl⟩ | ⟨h, _⟩ <;> first | (cases h; done) |
        exact ⟨.inl rfl, by simp, by simp, by simp, by simp, .inr ⟨by simp, by rw [equal_eq, equalIn_eq 9999 T _ _ hu]; rfl⟩⟩
    · refine ⟨_, h3, fun {φ ρ w a b} hp ha hb => ?_⟩
      rcases nilM_spec hx ha with ⟨_, rfl⟩ | ⟨h, _⟩ <;> first | (cases h; done) | skip
      rcases nilM_spec hy hb with ⟨h, _⟩ | ⟨_, p, rfl⟩ <;> first | (cases h; done) | skip
      exact ⟨.inl rfl, by simp, by simp, by simp, by simp, .inr ⟨by simp, by rw [equal_eq, equalIn_eq 9999 T _ _ hu]; rfl⟩⟩
    · cases h3
  · obtain ⟨bx, by_, hx, hy, hc⟩ := nil2_inv h1
    rcases hc with ⟨rfl, h3⟩ | ⟨rfl, rfl, h3⟩ | ⟨rfl, rfl, h3⟩
    · refine ⟨_, h3, fun {φ ρ w a b} hp ha hb => ?_⟩
      rcases nilF_spec hx ha with ⟨rfl, rfl⟩ | ⟨rfl, f, u, v, rfl⟩ <;> rcases nilF_spec hy hb with ⟨_, rfl⟩ | ⟨h, _⟩ <;> first | (cases h; done) |
        exact ⟨.inl rfl, by simp, by simp, by simp, by simp, .inr ⟨by simp, by rw [equal_eq, equalIn_eq 9999 T _ _ hu]; rfl⟩⟩
    · refine ⟨_, h3, fun {φ ρ w a b} hp ha hb => ?_⟩
      rcases nilF_spec hx ha with ⟨_, rfl⟩ | ⟨h, _⟩ <;> first | (cases h; done) | skip
      rcases nilF_spec hy hb with ⟨h, _⟩ | ⟨_, f, u, v, rfl⟩ <;> first | (cases h; done) | skip
      exact ⟨.inl rfl, by simp, by simp, by simp, by simp, .inr ⟨by simp, by rw [equal_eq, equalIn_eq 9999 T _ _ hu]; rfl⟩⟩
    · cases h3
  · split at h1
    · split at h1
      · unfold strEq at h1
        split at h1
        · split at h1
          · refine ⟨_, h1, fun {φ ρ w a b} hp ha hb => ?_⟩
            simp only [conc, Option.some.injEq] at ha hb
            subst ha; subst hb
            exact ⟨.inl rfl, by simp, by simp, by simp, by simp, .inl ⟨_, _, rfl, rfl, by rw [ByteArray.toList_eq, ByteArray.toList_eq]⟩⟩
          · cases h1
        · cases h1
      · cases h1
    · cases h1
  · cases h1
end

end Go.Proofs.YticednpolhnneaaGreat
