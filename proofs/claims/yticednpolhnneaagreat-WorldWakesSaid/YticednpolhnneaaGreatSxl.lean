/-
  A run reckoned ahead: operations with an effect do what was reckoned (2): rows made, copied, grown.
-/
import Derived.Test.YticednpolhnneaaGreatSxk
set_option linter.unusedVariables false
set_option linter.unusedSimpArgs false
namespace Go.Proofs.YticednpolhnneaaGreat
open Go

section
variable {P : Program} {ρ : Nat → Int} {w0 : Base} {D : Dn}

/-! the same over and over -/
def repG {α : Type} (z : List α) : Nat → List α
  | 0 => []
  | n + 1 => z ++ repG z n
theorem repL_eq (z : List AV) : ∀ n, repL z n = repG z n
  | 0 => rfl
  | n + 1 => by show z ++ repL z n = _; rw [repL_eq z n]; rfl
theorem repG_length {α : Type} (z : List α) : ∀ n, (repG z n).length = n * z.length
  | 0 => by simp [repG]
  | n + 1 => by rw [repG, List.length_append, repG_length z n, Nat.add_mul]; omega
theorem repG_get {α : Type} (z : List α) : ∀ (n i : Nat), i < n * z.length → (repG z n)[i]? = z[i % z.length]?
  | 0, i, h => by simp at h
  | n + 1, i, h => by
    rw [repG, List.getElem?_append]
    by_cases hi : i < z.length
    · rw [if_pos hi, Nat.mod_eq_of_lt hi]
    · rw [if_neg hi, repG_get z n _ (by rw [Nat.add_mul] at h; omega)]
      congr 1
      conv => rhs; rw [show i = i - z.length + z.length by omega, Nat.add_mod_right]
theorem repG_conc {φ : List Pl} {z : List AV} {xs : List Value} (h : concL φ ρ z = some xs) : ∀ n, concL φ ρ (repG z n) = some (repG xs n)
  | 0 => rfl
  | n + 1 => concL_append.2 ⟨_, _, h, repG_conc h n, rfl⟩
theorem range_rep (z : Array Value) (n : Nat) (hz : 0 < z.size ∨ n = 0) : (Array.range (n * z.size)).map (z[· % z.size]!) = (repG z.toList n).toArray := by
  apply Array.ext_getElem?
  intro i
  by_cases h : i < n * z.size
  · rw [show ((repG z.toList n).toArray)[i]? = (repG z.toList n)[i]? from by simp, repG_get _ _ _ (by rw [Array.length_toList]; exact h)]
    have h0 : 0 < z.size := by
      rcases hz with h1 | h1
      · exact h1
      · subst h1; simp at h
    have hm : i % z.size < z.size := Nat.mod_lt _ h0
    simp [h, hm]
  · rw [Array.getElem?_eq_none (by simpa using h), Array.getElem?_eq_none (by simp [repG_length]; simpa using h)]

theorem buildS_sound {T : TypeId} {n : Nat} {t : Ts} {parts : Array (Nat × Operand)} {s : St} {κ : AV → St → R} (hD : buildS P T n t parts s κ ∈ D) : ∃ v s', κ v s' ∈ D ∧ s'.pc = s.pc ∧ ∀ {w0 φ sz a w}, GA φ ρ t sz a → Gm P ρ w0 φ s w → EffO P ρ w0 φ a w s' (.buildSlice T n parts) v := by
  obtain ⟨d, hd, h1⟩ := optK_inv hD
  split at h1
  · rename_i e sz
    obtain ⟨hb, h2⟩ := brec_inv h1
    simp only [Bool.and_eq_true, natBle, decide_eq_true_eq, natBeq, Bool.not_eq_true', decide_eq_false_iff_not] at hb
    obtain ⟨hle, hsz0⟩ := hb
    obtain ⟨z, hz, h3⟩ := optK_inv h2
    obtain ⟨zl, h4, hzl⟩ := cellsK_inv h3
    obtain ⟨ps, h5, hps⟩ := opdParts_inv h4
    obtain ⟨hl, h6⟩ := brec_inv h5
    rw [natBeq, lenL_eq] at hl
    have hl := of_decide_eq_true hl
    obtain ⟨r, h7, hr⟩ := fillA_inv h6
    obtain ⟨s', h8, hpc, h9⟩ := newL_fixed (P := P) (ρ := ρ) h7
    refine ⟨_, s', h8, hpc, fun {w0 φ sz' a w} hg hm => ?_⟩
    obtain ⟨hu, hs⟩ := ixOf_sli hd
    obtain ⟨zv, hzr, hzc⟩ := zero_conc hz (w := w) (φ := φ) (ρ := ρ)
    have hzx := hzl hzc
    have hzs : zv.cells.size = sz := by rw [← Array.length_toList, concL_length hzx, hl]
    obtain ⟨ys, hy, hf⟩ := hr (by rw [repL_eq]; exact repG_conc hzx n) (hps hg)
    obtain ⟨r1, r2⟩ := h9 hm hy
    refine .of (m := Instr.buildSlice T n (parts.map fun (i, x) => (i, a.eval x))) (pre_one _ _) (x := .slice (some ⟨w.heap.size, 0, none⟩) n n) (by simp [conc, r2]) r1 ?_ (fun o ho => by unfold execOp; simp only [ho])
    have hle' : ¬ (n * sz > 2 ^ 24) := by
      have : n * sz ≤ 16777216 := hle
      omega
    have key : Instr.fill (fun i => some (i * sz, sz)) (repG zv.cells.toList n).toArray (parts.map fun (i, x) => (i, a.eval x)).toList = some ys.toArray := by
      rw [Array.toList_map]; exact hf
    generalize (parts.map fun (i, x) => (i, a.eval x)) = pv at key ⊢
    unfold Instr.buildSlice
    simp only [Sem.run_bind, run_underlying hu, Result.andThen_ok, run_size hs, hle', if_false]
    by_cases hn : n * sz = 0
    · have hn0 : n = 0 := by
        rcases Nat.mul_eq_zero.1 hn with h | h
        · exact h
        · exact absurd h hsz0
      subst hn0
      have e : ∀ f : Nat → Value, (Array.range 0).map f = (repG zv.cells.toList 0).toArray := fun f => by simp [repG]
      simp only [Nat.zero_mul, if_true, Sem.run_bind, Sem.run_pure, Result.andThen_ok, e, key, run_newRow]
    · have e := range_rep zv.cells n (.inl (by omega))
      rw [hzs] at e
      simp only [hn, if_false, Sem.run_bind, hzr, Result.andThen_ok, Sem.run_pure, hzs, e, key, run_newRow]
  · cases h1

theorem run_askRoom {w : World} {b : Nat} : (askRoom b).run P w = .ok () w := by
  unfold askRoom
  split <;> simp [mark, Sem.run]
theorem wrap_nat {n : Nat} (h : n ≤ 9223372036854775807) : IntKind.i64.wrap (n : Int) = n := by
  rw [← wrapF_eq]
  simp only [wrapF, halfF, modF, show ∀ a b : Int, Int.sub a b = a - b from fun _ _ => rfl, show ∀ a b : Int, Int.add a b = a + b from fun _ _ => rfl, show ∀ a b : Int, Int.emod a b = a % b from fun _ _ => rfl]
  simp only [Int.ofNat_eq_natCast]
  omega
theorem run_makeSlice {w : World} {T e sz by_ l c : Nat} {k k' : IntKind} (hu : P.underlying T = some (.slice e)) (hs : sizeA P e = some sz) (hb : bytesA P e = some by_) (hle : l ≤ c) (hby : by_ * c ≤ 281474976710656) (hc : c ≤ 9223372036854775807) {zv : Value} (hz : (zeroValue e).run P w = .ok zv w) (hzs : zv.cells.size = sz) (hz0 : 0 < sz) :
    (Instr.makeSlice T (.int k l) (.int k' c)).run P w = .ok (.slice (some ⟨w.heap.size, 0, none⟩) l c) { w with heap := w.heap.push (.cells (repG zv.cells.toList c).toArray e) } := by
  simp only [bytesA, Option.map_eq_some_iff] at hb
  obtain ⟨i, hi, rfl⟩ := hb
  have hb1 : ¬ ((i.bytes : Int) * (c : Int) > 2 ^ 48) := by
    have : ((i.bytes * c : Nat) : Int) ≤ 281474976710656 := by omega
    rw [Int.natCast_mul] at this
    omega
  unfold Instr.makeSlice
  simp only [Sem.run_bind, run_underlying hu, Result.andThen_ok, Go.asInt, asIntOf, Sem.run_pure, run_ti hi, wrap_nat (Nat.le_trans hle hc), wrap_nat hc]
  have c1 : (decide ((c : Int) < 0) || decide ((i.bytes : Int) * (c : Int) > 2 ^ 48) || decide ((l : Int) < 0) || decide ((l : Int) > (c : Int))) = false := by
    simp only [Bool.or_eq_false_iff, decide_eq_false_iff_not]
    exact ⟨⟨⟨by omega, hb1⟩, by omega⟩, by omega⟩
  simp only [Bool.or_assoc] at c1
  simp only [Bool.or_assoc, c1, Bool.false_eq_true, if_false, Sem.run_bind, run_askRoom, Result.andThen_ok, run_size hs, Int.toNat_natCast]
  by_cases hn : c * sz = 0
  · have hc0 : c = 0 := by
      rcases Nat.mul_eq_zero.1 hn with h | h
      · exact h
      · omega
    subst hc0
    have e : ∀ f : Nat → Value, (Array.range 0).map f = (repG zv.cells.toList 0).toArray := fun f => by simp [repG]
    simp only [Nat.zero_mul, if_true, Sem.run_bind, Sem.run_pure, Result.andThen_ok, e, run_newRow]
  · simp only [hn, if_false, Sem.run_bind, hz, Result.andThen_ok, Sem.run_pure]
    have e := range_rep zv.cells c (.inl (by omega))
    rw [hzs] at e
    rw [hzs, e, run_newRow]
    rfl

theorem makeS_sound {T : TypeId} {x y : AV} {s : St} {κ : AV → St → R} (hD : makeS P T x y s κ ∈ D) : ∃ v s', κ v s' ∈ D ∧ s'.pc = s.pc ∧ ∀ {w0 φ w a b}, Gm P ρ w0 φ s w → conc φ ρ x = some a → conc φ ρ y = some b → ∃ φ' z w', φ <+: φ' ∧ conc φ' ρ v = some z ∧ Gm P ρ w0 φ' s' w' ∧ (Instr.makeSlice T a b).run P w = .ok z w' := by
  obtain ⟨k, l, rfl, h1⟩ := asNat_inv hD
  obtain ⟨k', c, rfl, h2⟩ := asNat_inv h1
  obtain ⟨d, hd, h3⟩ := optK_inv h2
  split at h3
  · rename_i e sz
    obtain ⟨hu, hs⟩ := ixOf_sli hd
    obtain ⟨by_, hby, h4⟩ := optK_inv h3
    obtain ⟨hb, h5⟩ := brec_inv h4
    simp only [Bool.and_eq_true, natBle, decide_eq_true_eq] at hb
    obtain ⟨q1, q2, q3⟩ := hb
    obtain ⟨z, hz, h6⟩ := optK_inv h5
    obtain ⟨zl, h7, hzl⟩ := cellsK_inv h6
    split at h7
    · rename_i v
      obtain ⟨hb, h8⟩ := brec_inv h7
      simp only [Bool.and_eq_true, natBeq, decide_eq_true_eq] at hb
      obtain ⟨h1v, rfl⟩ := hb
      unfold newK at h8
      obtain ⟨hp, nx, pc⟩ := s
      have h8 := Eq.mp (congrArg (· ∈ D) (forceN_eq nx _)) h8
      refine ⟨_, _, h8, rfl, fun {w0 φ w a b} hm ha hb => ?_⟩
      simp only [conc, SI.ev, Option.some.injEq] at ha hb
      subst ha; subst hb
      obtain ⟨zv, hzr, hzc⟩ := zero_conc hz (w := w) (φ := φ) (ρ := ρ)
      have hzx := hzl hzc
      obtain ⟨xv, ys, e1, e2, e3⟩ := concL_cons.1 hzx
      simp only [concL, Option.some.injEq] at e2
      subst e2
      have hzs : zv.cells.size = 1 := by rw [← Array.length_toList, e3]; rfl
      have hrun := run_makeSlice (P := P) (w := w) (k := k) (k' := k') hu hs hby q1 q2 q3 hzr hzs (by omega)
      let w' : World := { w with heap := w.heap.push (.cells (repG zv.cells.toList c).toArray e) }
      have hlen : φ.length = nx := hm.len
      have hrl : (repG zv.cells.toList c).length = c := by rw [repG_length, Array.length_toList, hzs, Nat.mul_one]
      have ho : ObjOk P (φ ++ [⟨w.heap.size, 0, c, 1⟩]) ρ w' nx (.cells c .nil (some v) e false) := by
        refine ⟨⟨w.heap.size, 0, c, 1⟩, (repG zv.cells.toList c).toArray, (0, 0), by rw [← hlen]; simp, ⟨by simp [w'], by simp [hrl], by simp, fun _ => ⟨rfl, rfl, rfl, rfl⟩, (fun h => by cases h), (fun i _ h => by simp at h), fun i hi => ⟨v, xv, (by unfold celA; rw [Tr.get_nil]), conc_mono (pre_one _ _) _ _ e1, ?_, h1v⟩⟩⟩
        simp only [Nat.zero_add, List.getElem?_toArray]
        rw [repG_get _ _ _ (by rw [Array.length_toList, hzs]; omega), e3]
        simp [Nat.mod_one]
      have hm' := (hm.push (.cells (repG zv.cells.toList c).toArray e)).add (p := ⟨w.heap.size, 0, c, 1⟩) hm.kp.size (by simp) (fun i o' q hi hl hq he => by have := (hm.lo i q hq).2; simp only at he; omega) ho pc (fun x hx => Nat.ne_of_gt (hm.fr x hx).1)
      refine ⟨_, _, w', pre_one _ _, ?_, hm', hrun⟩
      simp only [conc]
      rw [show (φ ++ [(⟨w.heap.size, 0, c, 1⟩ : Pl)])[nx]? = some ⟨w.heap.size, 0, c, 1⟩ by rw [← hlen]; simp]
      rfl
    · rename_i z0 hne
      obtain ⟨hb, h8⟩ := brec_inv h7
      simp only [Bool.and_eq_true, natBeq, lenL_eq, decide_eq_true_eq, Bool.not_eq_true', decide_eq_false_iff_not] at hb
      obtain ⟨hl, hz0⟩ := hb
      obtain ⟨s', h9, hpc, h10⟩ := newL_fixed (P := P) (ρ := ρ) h8
      refine ⟨_, s', h9, hpc, fun {w0 φ w a b} hm ha hb => ?_⟩
      simp only [conc, SI.ev, Option.some.injEq] at ha hb
      subst ha; subst hb
      obtain ⟨zv, hzr, hzc⟩ := zero_conc hz (w := w) (φ := φ) (ρ := ρ)
      have hzx := hzl hzc
      have hzs : zv.cells.size = sz := by rw [← Array.length_toList, concL_length hzx, hl]
      have hrun := run_makeSlice (P := P) (w := w) (k := k) (k' := k') hu hs hby q1 q2 q3 hzr hzs (by omega)
      obtain ⟨r1, r2⟩ := h10 hm (by rw [repL_eq]; exact repG_conc hzx c)
      exact ⟨_, _, _, pre_one _ _, by simp [conc, r2], r1, hrun⟩
  · cases h3
end

end Go.Proofs.YticednpolhnneaaGreat
