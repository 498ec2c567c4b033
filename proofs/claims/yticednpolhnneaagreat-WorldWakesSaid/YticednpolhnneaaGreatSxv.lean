/-
  A run reckoned ahead that ends in true, on every way that anybody goes.
-/
import Derived.Test.YticednpolhnneaaGreatSxs
import Derived.Below
set_option linter.unusedVariables false
set_option linter.unusedSimpArgs false
namespace Go.Proofs.YticednpolhnneaaGreat
open Go Go.RowKit

noncomputable def pcBeq : List (SB × Bool) → List (SB × Bool) → Bool
  | [], [] => true
  | a :: l, b :: m => SB.beq a.1 b.1 && ((a.2 == b.2) && pcBeq l m)
  | _, _ => false
theorem pcBeq_eq : ∀ (l m : List (SB × Bool)), pcBeq l m = true → l = m
  | [], m, h => by cases m <;> simp [pcBeq] at h; rfl
  | a :: l, m, h => by
    cases m with
    | nil => simp [pcBeq] at h
    | cons b m =>
      simp only [pcBeq, Bool.and_eq_true, beq_iff_eq] at h
      rw [show a = b from Prod.ext (SB.beq_eq _ _ h.1) h.2.1, pcBeq_eq l m h.2.2]
/-- every end is good; the ways that nobody goes are told, in their order -/
noncomputable def okT (good : AV → Bool) (r : R) : List (SB × Bool) → List (List (SB × Bool)) → (List (List (SB × Bool)) → Bool) → Bool :=
  R.rec (motive := fun _ => List (SB × Bool) → List (List (SB × Bool)) → (List (List (SB × Bool)) → Bool) → Bool)
    (fun v s acc ds κ => good v && (pcBeq s.pc.l acc && κ ds)) (fun _ _ _ _ => false)
    (fun acc ds κ => List.rec (motive := fun _ => Bool) false (fun d ds _ => pcBeq d acc && κ ds) ds)
    (fun c _ _ a b acc ds κ => a ((c, true) :: acc) ds fun ds => b ((c, false) :: acc) ds κ) r
def isNil {α : Type} (l : List α) : Bool := match l with
  | [] => true
  | _ => false
theorem okT_inv {good : AV → Bool} {ρ : Nat → Int} : ∀ (r : R) {acc : List (SB × Bool)} {ds : List (List (SB × Bool))} {κ : List (List (SB × Bool)) → Bool}, okT good r acc ds κ = true →
    ∃ us rest, ds = us ++ rest ∧ κ rest = true ∧ ((∀ x ∈ acc, x.1.ev ρ = x.2) → (∀ d ∈ us, ¬ ∀ x ∈ d, x.1.ev ρ = x.2) → ∃ V S, r ∈ Dn.mk ρ V S ∧ good V = true ∧ ∀ x ∈ S.pc.l, x.1.ev ρ = x.2) := by
  intro r
  induction r with
  | done v s =>
    intro acc ds κ h
    have h : (good v && (pcBeq s.pc.l acc && κ ds)) = true := h
    simp only [Bool.and_eq_true] at h
    obtain ⟨h1, h2, h3⟩ := h
    refine ⟨[], ds, rfl, h3, fun ha _ => ⟨v, s, ⟨rfl, rfl⟩, h1, fun x hx => ha x ?_⟩⟩
    rw [← pcBeq_eq _ _ h2]
    exact hx
  | fail n => intro acc ds κ h; cases h
  | dead =>
    intro acc ds κ h
    cases ds with
    | nil => cases h
    | cons d ds =>
      have h : (pcBeq d acc && κ ds) = true := h
      simp only [Bool.and_eq_true] at h
      refine ⟨[d], ds, rfl, h.2, fun ha hd => absurd ?_ (hd d (by simp))⟩
      rw [pcBeq_eq _ _ h.1]
      exact ha
  | fork c a b iha ihb =>
    intro acc ds κ h
    obtain ⟨us1, r1, rfl, h1, k1⟩ := iha (show okT good a ((c, true) :: acc) ds (fun ds => okT good b ((c, false) :: acc) ds κ) = true from h)
    obtain ⟨us2, r2, rfl, h2, k2⟩ := ihb h1
    refine ⟨us1 ++ us2, r2, by simp, h2, fun ha hd => ?_⟩
    cases hc : c.ev ρ with
    | true =>
      obtain ⟨V, S, e1, e2, e3⟩ := k1 (fun x hx => by
        simp only [List.mem_cons] at hx
        rcases hx with rfl | hx
        · exact hc
        · exact ha x hx) fun d hx => hd d (by simp [hx])
      exact ⟨V, S, .inl ⟨hc, e1⟩, e2, e3⟩
    | false =>
      obtain ⟨V, S, e1, e2, e3⟩ := k2 (fun x hx => by
        simp only [List.mem_cons] at hx
        rcases hx with rfl | hx
        · exact hc
        · exact ha x hx) fun d hx => hd d (by simp [hx])
      exact ⟨V, S, .inr ⟨hc, e1⟩, e2, e3⟩
/-- a tree whose ends tell the way that came there -/
noncomputable def fillT (r : R) : List (SB × Bool) → R := R.rec (motive := fun _ => List (SB × Bool) → R) (fun v _ acc => .done v ⟨.nil, nat_lit 0, ⟨acc, [], []⟩⟩) (fun n _ => .fail n) (fun _ => .dead) (fun c _ _ a b acc => .fork c (a ((c, true) :: acc)) (b ((c, false) :: acc))) r
def endT : R := .done (.bool (.lit true)) ⟨.nil, nat_lit 0, ⟨[], [], []⟩⟩
def isB (b : Bool) (v : AV) : Bool := match v with
  | .bool (.lit c) => b == c
  | _ => false
noncomputable def okTree (r : R) (b : Bool) (pcs : List (SB × Bool)) (ds : List (List (SB × Bool))) : Bool := okT (isB b) r pcs ds isNil
theorem okT_ends {good : AV → Bool} {r : R} {pcs : List (SB × Bool)} {ds : List (List (SB × Bool))} (h : okT good r pcs ds isNil = true) {ρ : Nat → Int} (hp : ∀ x ∈ pcs, x.1.ev ρ = x.2) (hd : ∀ d ∈ ds, ¬ ∀ x ∈ d, x.1.ev ρ = x.2) : ∃ V S, r ∈ Dn.mk ρ V S ∧ good V = true ∧ ∀ x ∈ S.pc.l, x.1.ev ρ = x.2 := by
  obtain ⟨us, rest, rfl, h1, h2⟩ := okT_inv (ρ := ρ) r h
  have : rest = [] := by cases rest with | nil => rfl | cons _ _ => cases h1
  subst this
  exact h2 hp fun d hx => hd d (by simpa using hx)
/-- conditions, one behind the other -/
def conjB (ρ : Nat → Int) : List (SB × Bool) → Prop
  | [] => True
  | x :: l => x.1.ev ρ = x.2 ∧ conjB ρ l
theorem conjB_of {ρ : Nat → Int} : ∀ {l : List (SB × Bool)}, (∀ x ∈ l, x.1.ev ρ = x.2) → conjB ρ l
  | [], _ => trivial
  | x :: l, h => ⟨h x (by simp), conjB_of fun y hy => h y (by simp [hy])⟩
/-- a run that ends in a bool -/
theorem run_bool {P : Program} {pl : Plans} {sm : Sums} (hm : P.follows .mixedOrders = true) (hP : PlansOk P pl) (hS : SumsOk P sm) {n : Nat} {f : FuncId} {args : List AV} {smp : List (List Int)} {rg : List (Int × Int)} {b : Bool} {pcs : List (SB × Bool)} {ds : List (List (SB × Bool))} {r : R}
    (h : evCall P pl sm n f args (s0 pcs smp rg) finK = r) (hr : okTree r b pcs ds = true) (ρ : Nat → Int) (hp : ∀ x ∈ pcs, x.1.ev ρ = x.2) (hrg : RgOk ρ rg) (hd : ∀ d ∈ ds, ¬ conjB ρ d) {xs : List Value} (hx : concL [] ρ args = some xs) (w : World)
    (hfo : ∀ a, ρ (fMark a) ≠ 1 := by first | (intro a; show (0 : Int) ≠ 1; decide) | (intro a; unfold fMark; repeat (rw [if_neg (by omega)]); decide)) :
    Calls P f xs.toArray w fun e w' => e = .returned (.bool b) ∧ Kp [] w w' := by
  obtain ⟨V, S, h1, h2, h3⟩ := okT_ends hr hp fun d hx hy => hd d hx (conjB_of hy)
  rw [← h] at h1
  refine (run_sound hm hP hS h1 ρ hx h3 hrg w (fun a _ _ h => absurd h (hfo a))).mono fun e w' ⟨φ, x, he, hc, hk⟩ => ⟨?_, hk⟩
  unfold isB at h2
  split at h2
  · simp only [conc, SB.ev, Option.some.injEq] at hc
    simp only [beq_iff_eq] at h2
    rw [he, ← hc, h2]
  · cases h2
theorem wrap_u32' (n : Int) : IntKind.u32.wrap n = n % 4294967296 := by
  rw [← wrapF_eq]
  simp only [wrapF, halfF, modF, show ∀ a b : Int, Int.sub a b = a - b from fun _ _ => rfl, show ∀ a b : Int, Int.add a b = a + b from fun _ _ => rfl, show ∀ a b : Int, Int.emod a b = a % b from fun _ _ => rfl]
  simp only [Int.ofNat_eq_natCast]
  omega
theorem wrap_i64' (n : Int) : IntKind.i64.wrap n = (n + 9223372036854775808) % 18446744073709551616 - 9223372036854775808 := by
  rw [← wrapF_eq]
  rfl
theorem wrap_i32' (n : Int) : IntKind.i32.wrap n = (n + 2147483648) % 4294967296 - 2147483648 := by
  rw [← wrapF_eq]
  rfl
theorem wf_int {k : IntKind} {n : Int} (h : (Lit.int k n).wf = true) : k.min ≤ n ∧ n ≤ k.max := by
  simpa [Lit.wf] using h
theorem Kp.below0 {w w' : World} (h : Kp [] w w') : Below w.heap.size w w' := ⟨h.os, h.tape, h.output, h.size, fun k hk => h.block k hk (by simp)⟩

/-! what is known ahead, put together -/
theorem enter_of {P : Program} {f : FuncId} {fn : Func} (hf : P.funcs[f]? = some fn) (h1 : (fn.name == "runtime.NumGoroutine") = false) (h2 : fn.body.isNone = false) (xs : Array Value) (w : World) : (callFunc f xs).run P w = .ok (.enter f xs) w := by
  unfold callFunc
  rw [Sem.run_bind]
  simp only [program, Sem.run, Result.andThen_ok, hf, h1, h2, Bool.false_eq_true, if_false]
  rfl
noncomputable section
abbrev noSums : Sums := fun _ _ _ _ alt => alt
theorem noSums_ok {P : Program} : SumsOk P noSums := fun h => .inl h
abbrev sumOr (a b : Sums) : Sums := fun f l s κ alt => a f l s κ (b f l s κ alt)
theorem sumOr_ok {P : Program} {a b : Sums} (ha : SumsOk P a) (hb : SumsOk P b) : SumsOk P (sumOr a b) := by
  intro ρ f l s κ alt D h
  rcases ha (ρ := ρ) (show a f l s κ (b f l s κ alt) ∈ D from h) with h | h
  · exact hb h
  · exact .inr h
/-- one function; what it gives is told by its arguments alone, and it changes nothing -/
def sumPure (f0 : FuncId) (g : List AV → Option AV) : Sums := fun f l s κ alt => Bool.rec (motive := fun _ => R) alt (Option.rec (motive := fun _ => R) alt (fun v => κ v s) (g l)) (Nat.beq f f0)
def PureOk (P : Program) (f0 : FuncId) (g : List AV → Option AV) : Prop := ∀ l v, g l = some v → ∀ {φ : List Pl} {ρ : Nat → Int} {xs : List Value} (w : World), concL φ ρ l = some xs → ∃ x, conc φ ρ v = some x ∧ Calls P f0 xs.toArray w fun e w' => e = .returned x ∧ Kp [] w w'
theorem sumPure_ok {P : Program} {f0 : FuncId} {g : List AV → Option AV} (he : ∀ (xs : Array Value) (w : World), (callFunc f0 xs).run P w = .ok (.enter f0 xs) w) (hg : PureOk P f0 g) : SumsOk P (sumPure f0 g) := by
  intro ρ f l s κ alt D h
  unfold sumPure at h
  rcases brec_cases h with ⟨hf, h1⟩ | ⟨_, h1⟩
  · rw [natBeq] at hf
    have hf := of_decide_eq_true hf
    subst hf
    cases hv : g l with
    | none => rw [hv] at h1; exact .inl h1
    | some v =>
      rw [hv] at h1
      refine .inr ⟨v, s, h1, .refl _, fun {w0 φ w xs} hρ hx hm => CallsOr.of (he _ _) ?_⟩
      obtain ⟨x, e1, e2⟩ := hg l v hv w hx
      exact e2.mono fun e w' ⟨e3, e4⟩ => ⟨φ, x, e3, List.prefix_refl _, e1, hm.keeps e4⟩
  · exact .inl h1
end
end Go.Proofs.YticednpolhnneaaGreat
