/-
  A run reckoned ahead: operations with an effect do what was reckoned (3): copied, grown, maps.
-/
import Derived.Test.YticednpolhnneaaGreatSxl
set_option linter.unusedVariables false
set_option linter.unusedSimpArgs false
namespace Go.Proofs.YticednpolhnneaaGreat
open Go

section
variable {P : Program} {ρ : Nat → Int} {w0 : Base} {D : Dn}

def lenV : AV → Option Nat
  | .sl _ _ len _ => some len
  | .emp _ _ _ => some 0
  | .em0 _ _ _ => some 0
  | .raw (.slice _ n _) => some n
  | .raw (.string b) => some b.size
  | _ => none
theorem lenOfK_inv {x : AV} {κ : Nat → R} (hD : lenOfK x κ ∈ D) : ∃ n, lenV x = some n ∧ κ n ∈ D := by
  unfold lenOfK at hD
  split at hD <;> first | exact ⟨_, rfl, hD⟩ | cases hD
theorem lenOf_run {x : AV} {n : Nat} (h : lenV x = some n) {φ : List Pl} {y : Value} (hy : conc φ ρ x = some y) {w : World} : (Builtin.lenOf y).run P w = .ok n w := by
  unfold lenV at h
  split at h <;> cases h
  · obtain ⟨p, _, rfl⟩ := conc_sl hy; rfl
  · simp only [conc, Option.map_eq_some_iff] at hy
    obtain ⟨p, _, rfl⟩ := hy
    split <;> rfl
  · simp only [conc, Option.map_eq_some_iff] at hy
    obtain ⟨p, _, rfl⟩ := hy
    rfl
  · simp only [conc, Option.some.injEq] at hy
    subst hy; rfl
  · simp only [conc, Option.some.injEq] at hy
    subst hy; rfl
theorem bytes_conc {φ : List Pl} : ∀ (l : List UInt8), concL φ ρ (l.map fun x => AV.int .u8 (.lit (.ofNat x.toNat))) = some (l.map fun b => Value.int .u8 b.toNat)
  | [] => rfl
  | b :: l => concL_cons.2 ⟨_, _, rfl, bytes_conc l, rfl⟩
theorem firstK_sound {h : Tr AObj} {s n : Nat} {x : AV} {κ : List AV → R} (hD : firstK h s n x κ ∈ D) : ∃ l, κ l ∈ D ∧ (∀ m, lenV x = some m → n ≤ m → l.length = n * s) ∧ ∀ {φ w y}, Hp P φ ρ h w → conc φ ρ x = some y → ∃ arr, (Builtin.firstCells s n y).run P w = .ok arr w ∧ concL φ ρ l = some arr.toList := by
  unfold firstK at hD
  split at hD
  · rename_i id off len cap
    obtain ⟨m, c, d, T, r, hg, h1⟩ := objK_inv hD
    obtain ⟨hle, h2⟩ := brec_inv h1
    rw [natBle] at hle
    have hle : off + n * s ≤ m := of_decide_eq_true hle
    obtain ⟨l, hl, h3, hcl⟩ := ldN_inv h2
    have hl : l.length = n * s := hl
    refine ⟨l, h3, fun _ _ _ => hl, fun {φ w y} hp hy => ?_⟩
    obtain ⟨p, arr, fz, hpl, hc⟩ := hp.obj _ _ hg
    obtain ⟨p', hp', rfl⟩ := conc_sl hy
    rw [hpl] at hp'; cases hp'
    obtain ⟨xs, hxs, hcx⟩ := cells_row hc l off (by rw [hl]; exact hle) (fun i hi => hcl i (by rw [hl] at hi; exact hi))
    have hr := run_loadCells_list (P := P) (w := w) ⟨p.blk, p.sh + off, none⟩ xs hcx
    have hm : xs.length = n * s := by rw [concL_length hxs, hl]
    rw [hm] at hr
    exact ⟨xs.toArray, hr, by simpa using hxs⟩
  · rename_i id a b
    obtain ⟨hn, h1⟩ := brec_inv hD
    rw [natBeq] at hn
    have hn := of_decide_eq_true hn
    subst hn
    refine ⟨[], h1, fun _ _ _ => by simp, fun {φ w y} hp hy => ?_⟩
    simp only [conc, Option.map_eq_some_iff] at hy
    obtain ⟨p, _, rfl⟩ := hy
    refine ⟨#[], ?_, rfl⟩
    split <;> simp [Builtin.firstCells, loadCells, loadCellsFrom]
  · rename_i id a b
    obtain ⟨hn, h1⟩ := brec_inv hD
    rw [natBeq] at hn
    have hn := of_decide_eq_true hn
    subst hn
    refine ⟨[], h1, fun _ _ _ => by simp, fun {φ w y} hp hy => ?_⟩
    simp only [conc, Option.map_eq_some_iff] at hy
    obtain ⟨p, _, rfl⟩ := hy
    refine ⟨#[], ?_, rfl⟩
    simp [Builtin.firstCells, loadCells, loadCellsFrom]
  · obtain ⟨hn, h1⟩ := brec_inv hD
    rw [natBeq] at hn
    have hn := of_decide_eq_true hn
    subst hn
    refine ⟨[], h1, fun _ _ _ => by simp, fun {φ w y} hp hy => ?_⟩
    simp only [conc, Option.some.injEq] at hy
    subst hy
    exact ⟨#[], rfl, rfl⟩
  · rename_i b
    obtain ⟨hs, h1⟩ := brec_inv hD
    rw [natBeq] at hs
    have hs := of_decide_eq_true hs
    subst hs
    refine ⟨_, h1, fun m hm hle => ?_, fun {φ w y} hp hy => ?_⟩
    · cases hm
      simp
      have : b.size = b.data.size := rfl
      omega
    · simp only [conc, Option.some.injEq] at hy
      subst hy
      refine ⟨(b.extract 0 n).data.map fun b => .int .u8 b.toNat, rfl, ?_⟩
      rw [Array.toList_map, ← bytes_conc (φ := φ) (ρ := ρ)]
      congr 1
      simp [ByteArray.extract, ByteArray.copySlice]
  · cases hD

/-! cells that stand for the same -/
theorem Tr.setP_setP {α : Type} (x y : α) : ∀ (p : Pos) (t : Tr α), Tr.setP y p (Tr.setP x p t) = Tr.setP y p t
  | .here, t => by cases t <;> rfl
  | .left p, t => by cases t with
    | nil => exact congrArg (fun l => Tr.node none l .nil) (Tr.setP_setP x y p .nil)
    | node v l r => exact congrArg (fun l => Tr.node v l r) (Tr.setP_setP x y p l)
  | .right p, t => by cases t with
    | nil => exact congrArg (fun r => Tr.node none .nil r) (Tr.setP_setP x y p .nil)
    | node v l r => exact congrArg (fun r => Tr.node v l r) (Tr.setP_setP x y p r)
theorem Tr.set_set {α : Type} (t : Tr α) (k : Nat) (x y : α) : (t.set k x).set k y = t.set k y := Tr.setP_setP x y _ t
theorem Gm.swap {φ : List Pl} {s : St} {w : World} (hg : Gm P ρ w0 φ s w) {id n : Nat} {c c' : Tr AV} {d d' : Option AV} {T : TypeId} {r : Bool} (hid : s.hp.get id = some (.cells n c d T r)) (h : ∀ i, i < n → celA c' d' i = celA c d i) : Gm P ρ w0 φ ⟨s.hp.set id (.cells n c' d' T r), s.nx, s.pc⟩ w := by
  obtain ⟨p, arr, fz, hp, hc⟩ := hg.hp.obj _ _ hid
  refine hg.upd hid rfl hp (.refl _ _) ⟨p, arr, fz, hp, ⟨hc.blk, hc.size, hc.le, hc.fix, hc.es, hc.fr, fun i hi => ?_⟩⟩
  obtain ⟨v, x, e1, e2, e3, e4⟩ := hc.cell i hi
  exact ⟨v, x, (h i hi).trans e1, e2, e3, e4⟩
theorem cellK_eq {c : Tr AV} {d : Option AV} {i : Nat} {v : AV} (h : celA c d i = some v) (κ : AV → R) : cellK c d i κ = κ v := by
  unfold celA at h
  unfold cellK
  cases hc : c.get i with
  | some u => rw [hc] at h; cases h; rfl
  | none => rw [hc] at h; have h : d = some v := h; rw [h]; rfl
theorem ldN_ok {c : Tr AV} {d : Option AV} : ∀ (m off : Nat), (∀ i, i < m → ∃ v, celA c d (off + i) = some v) → ∃ l, l.length = m ∧ (∀ κ, ldN c d off m κ = κ l) ∧ ∀ i, i < m → l[i]? = celA c d (off + i)
  | 0, off, h => ⟨[], rfl, fun κ => rfl, fun i hi => absurd hi (Nat.not_lt_zero _)⟩
  | m + 1, off, h => by
    obtain ⟨v, hv⟩ := h 0 (Nat.succ_pos _)
    obtain ⟨l, h1, h2, h3⟩ := ldN_ok m (off + 1) fun i hi => by
      obtain ⟨u, hu⟩ := h (i + 1) (by omega)
      exact ⟨u, by rw [← hu]; congr 1; omega⟩
    refine ⟨v :: l, by simp [h1], fun κ => ?_, fun i hi => ?_⟩
    · show cellK c d off (fun v => ldN c d (off + 1) m fun l => κ (v :: l)) = _
      rw [cellK_eq (i := off) hv, h2]
    · cases i with
      | zero => exact hv.symm
      | succ i =>
        rw [List.getElem?_cons_succ, h3 i (by omega)]
        congr 1; omega
theorem allOne_of {l : List AV} (h : ∀ v ∈ l, oneB v = true) : allOne l = true := by
  induction l with
  | nil => rfl
  | cons v l ih =>
    show Bool.rec (motive := fun _ => Bool) false (allOne l) (oneB v) = true
    rw [h v (by simp), ih fun u hu => h u (by simp [hu])]
theorem allOne_mem {l : List AV} (h : allOne l = true) : ∀ v ∈ l, oneB v = true := fun v hv => allOne_spec h v hv
theorem Tr.setP_same {α : Type} (x : α) : ∀ (p : Pos) (t : Tr α), Tr.getP p t = some x → Tr.setP x p t = t
  | .here, t, h => by cases t with
    | nil => cases h
    | node v l r => have h : v = some x := h; rw [h]; rfl
  | .left p, t, h => by cases t with
    | nil => cases h
    | node v l r => exact congrArg (fun l => Tr.node v l r) (Tr.setP_same x p l h)
  | .right p, t, h => by cases t with
    | nil => cases h
    | node v l r => exact congrArg (fun r => Tr.node v l r) (Tr.setP_same x p r h)
theorem Tr.set_same {α : Type} {t : Tr α} {k : Nat} {x : α} (h : t.get k = some x) : t.set k x = t := Tr.setP_same x _ t h

theorem copyG_sound {T e sz m dl : Nat} {s : St} {d x : AV} {Ts : Array TypeId} {κ : AV → St → R} (hT : Ts[0]? = some T) (hu : P.underlying T = some (.slice e)) (hs : sizeA P e = some sz) (hm : lenV x = some m) (hdl : lenV d = some dl) (h3 : copyG sz (min m dl) s d x κ ∈ D) : ∃ v s', κ v s' ∈ D ∧ s'.pc = s.pc ∧ ∀ {w0 φ w a b}, Gm P ρ w0 φ s w → conc φ ρ d = some a → conc φ ρ x = some b → ∃ y w', conc φ ρ v = some y ∧ Gm P ρ w0 φ s' w' ∧ ∀ R', (Builtin.copy_ Ts R' #[a, b]).run P w = .ok y w' := by
  have h3 : firstK s.hp sz (min m dl) x (copyD s d (min m dl) κ) ∈ D := h3
  obtain ⟨l, h4, hll, hf⟩ := firstK_sound (P := P) (ρ := ρ) h3
  have base : ∀ {w0 φ w a b}, Gm P ρ w0 φ s w → conc φ ρ d = some a → conc φ ρ x = some b → ∃ arr : Array Value, concL φ ρ l = some arr.toList ∧ ∀ (w' : World) (p : Option Addr) (n c : Nat), a = .slice p n c → ((match p with | some q => storeCells q arr.toList | none => pure ()).run P w = .ok () w') → ∀ R', (Builtin.copy_ Ts R' #[a, b]).run P w = .ok (.int .i64 (min m dl : Nat)) w' := by
    intro w0 φ w a b hg ha hb
    obtain ⟨arr, r1, r2⟩ := hf hg.hp hb
    refine ⟨arr, r2, fun w' p n c e hst R' => ?_⟩
    subst e
    have hn : n = dl := by
      have := lenOf_run (P := P) hdl ha (w := w)
      simp [Builtin.lenOf] at this
      exact this
    subst hn
    unfold Builtin.copy_
    simp only [hT, List.getElem?_toArray, List.getElem?_cons_zero, List.getElem?_cons_succ, Sem.run_bind, run_underlying hu, Result.andThen_ok, lenOf_run hm hb, run_size hs]
    rw [show Nat.min m n = min m n from rfl, r1]
    simp only [Result.andThen_ok]
    cases p with
    | none =>
      simp only [Sem.run_pure, Result.ok.injEq, true_and] at hst
      subst hst
      rfl
    | some q =>
      simp only [Sem.run_bind]
      simp only at hst
      rw [hst]; rfl
  unfold copyD at h4
  split at h4
  · rename_i id off len cap
    obtain ⟨s', h5, hpc, h6⟩ := stP_sound (P := P) (ρ := ρ) h4
    refine ⟨_, s', h5, hpc, fun {w0 φ w a b} hg ha hb => ?_⟩
    obtain ⟨arr, r1, r2⟩ := base hg ha hb
    obtain ⟨p, hp, rfl⟩ := conc_sl ha
    obtain ⟨w', q1, q2⟩ := h6 hg hp r1
    exact ⟨_, w', rfl, q2, r2 w' _ _ _ rfl q1⟩
  · rename_i id o1 o2
    refine ⟨_, s, h4, rfl, fun {w0 φ w a b} hg ha hb => ?_⟩
    obtain ⟨arr, r1, r2⟩ := base hg ha hb
    have hl0 : arr.toList = [] := by
      cases hdl
      have h0 := hll m hm (by simp)
      simp only [Nat.min_zero, Nat.zero_mul] at h0
      have := concL_length r1
      rw [h0] at this
      exact List.length_eq_zero_iff.1 this
    have hsl : ∃ q n c, a = .slice (some q) n c := by
      simp only [conc, Option.map_eq_some_iff] at ha
      obtain ⟨p, _, rfl⟩ := ha
      split
      · exact ⟨_, _, _, rfl⟩
      · exact ⟨_, _, _, rfl⟩
    obtain ⟨q, n, c, rfl⟩ := hsl
    exact ⟨_, w, rfl, hg, r2 w _ _ _ rfl (by rw [hl0]; rfl)⟩
  · rename_i id o1 o2
    refine ⟨_, s, h4, rfl, fun {w0 φ w a b} hg ha hb => ?_⟩
    obtain ⟨arr, r1, r2⟩ := base hg ha hb
    have hl0 : arr.toList = [] := by
      cases hdl
      have h0 := hll m hm (by simp)
      simp only [Nat.min_zero, Nat.zero_mul] at h0
      have := concL_length r1
      rw [h0] at this
      exact List.length_eq_zero_iff.1 this
    have hsl : ∃ q n c, a = .slice (some q) n c := by
      simp only [conc, Option.map_eq_some_iff] at ha
      obtain ⟨p, _, rfl⟩ := ha
      exact ⟨_, _, _, rfl⟩
    obtain ⟨q, n, c, rfl⟩ := hsl
    exact ⟨_, w, rfl, hg, r2 w _ _ _ rfl (by rw [hl0]; rfl)⟩
  · refine ⟨_, s, h4, rfl, fun {w0 φ w a b} hg ha hb => ?_⟩
    obtain ⟨arr, r1, r2⟩ := base hg ha hb
    simp only [conc, Option.some.injEq] at ha
    exact ⟨_, w, rfl, hg, r2 w _ _ _ ha.symm rfl⟩
  · cases h4

theorem litU_some {v : Option AV} {n : Int} (h : litU v = some n) : v = some (.int .u8 (.lit n)) := by
  unfold litU at h
  split at h
  · cases h; rfl
  · cases h
theorem eqU_some {a b : Option Int} (h : eqU a b = true) : ∃ n, a = some n ∧ b = some n := by
  unfold eqU at h
  split at h
  · split at h
    · rw [beqF_eq, decide_eq_true_eq] at h
      exact ⟨_, rfl, by rw [h]⟩
    · cases h
  · cases h
theorem isNilT_nil {c : Tr AV} (h : isNilT c = true) : c = .nil := by
  cases c with
  | nil => rfl
  | node v l r => cases h
theorem copy_sound {T : TypeId} {s : St} {d x : AV} {Ts : Array TypeId} {κ : AV → St → R} (hT : Ts[0]? = some T) (hD : copyA P T s d x κ ∈ D) : ∃ v s', κ v s' ∈ D ∧ s'.pc = s.pc ∧ ∀ {w0 φ w a b}, Gm P ρ w0 φ s w → conc φ ρ d = some a → conc φ ρ x = some b → ∃ y w', conc φ ρ v = some y ∧ Gm P ρ w0 φ s' w' ∧ ∀ R', (Builtin.copy_ Ts R' #[a, b]).run P w = .ok y w' := by
  obtain ⟨t, ht, h1⟩ := optK_inv hD
  split at h1
  · rename_i e sz
    obtain ⟨hu, hs⟩ := ixOf_sli ht
    obtain ⟨m, hm, h2⟩ := lenOfK_inv h1
    obtain ⟨dl, hdl, h3⟩ := lenOfK_inv h2
    rw [forceN_eq, minF_eq] at h3
    rcases brec_cases h3 with ⟨hz, h4⟩ | ⟨_, h4⟩
    · rw [natBeq] at hz
      have hz : sz = 1 := of_decide_eq_true hz
      subst hz
      unfold same0 at h4
      split at h4
      · rename_i j o dlen dcap
        split at h4
        · rename_i i q xlen xcap
          obtain ⟨mm, c, ee, T1, r1, hj, h5⟩ := objK_inv h4
          obtain ⟨mm', c', ee', T2, r2, hi, h6⟩ := objK_inv h5
          rcases brec_cases h6 with ⟨hb, h7⟩ | ⟨_, h7⟩
          · rcases brec_cases h7 with ⟨hb2, h8⟩ | ⟨_, h8⟩
            · simp only [Bool.and_eq_true] at hb hb2
              obtain ⟨hc1, hc2, hc3⟩ := hb
              obtain ⟨n, e1, e2⟩ := eqU_some hc3
              have e1 := litU_some e1
              have e2 := litU_some e2
              have hc1 := isNilT_nil hc1
              have hc2 := isNilT_nil hc2
              subst e1; subst e2; subst hc1; subst hc2
              rw [natBle, natBle, decide_eq_true_eq, decide_eq_true_eq] at hb2
              obtain ⟨hle1, hle2⟩ := hb2
              refine ⟨_, s, h8, rfl, fun {w0 φ w a b} hg ha hb' => ?_⟩
              obtain ⟨l, hol, hld, hget⟩ := ldN_ok (c := Tr.nil) (d := some (.int .u8 (.lit n))) (min m dl * 1) q fun i hi => ⟨_, by unfold celA; rw [Tr.get_nil]⟩
              have hel : ∀ i, i < min m dl * 1 → l[i]? = some (AV.int .u8 (.lit n)) := fun i hi => by
                rw [hget i hi]; unfold celA; rw [Tr.get_nil]
              have hone : allOne l = true := allOne_of fun v hv => by
                obtain ⟨i, hi, rfl⟩ := List.mem_iff_getElem.1 hv
                have := hel i (by omega)
                rw [List.getElem?_eq_getElem hi] at this
                rw [Option.some.inj this]; rfl
              have hmem : copyG 1 (min m dl) s (.sl j o dlen dcap) (.sl i q xlen xcap) R.done ∈ Dn.mk ρ (.int .i64 (.lit (.ofNat (min m dl)))) ⟨s.hp.set j (.cells mm (setL .nil o l) (some (.int .u8 (.lit n))) T1 r1), s.nx, s.pc⟩ := by
                show objK s.hp i (fun m' c d _ _ => Bool.rec (motive := fun _ => R) (.fail 124) (ldN c d q (Nat.mul (min m dl) 1) _) (Nat.ble (Nat.add q (Nat.mul (min m dl) 1)) m')) ∈ (_ : Dn)
                unfold objK
                rw [hi]
                show Bool.rec (motive := fun _ => R) (.fail 124) (ldN .nil (some (.int .u8 (.lit n))) q (min m dl * 1) _) (Nat.ble (q + min m dl * 1) mm') ∈ (_ : Dn)
                rw [natBle, decide_eq_true (by have : q + min m dl ≤ mm' := hle2; omega)]
                show ldN _ _ q (min m dl * 1) _ ∈ (_ : Dn)
                rw [hld]
                show objK s.hp j (stP s j o l _) ∈ (_ : Dn)
                unfold objK
                rw [hj]
                show Bool.rec (motive := fun _ => R) (.fail 101) (Bool.rec (motive := fun _ => R) (.fail 102) _ (Nat.ble (Nat.add o (lenL l)) mm)) (allOne l) ∈ (_ : Dn)
                rw [hone, lenL_eq, hol]
                show Bool.rec (motive := fun _ => R) (.fail 102) _ (Nat.ble (o + min m dl * 1) mm) ∈ (_ : Dn)
                rw [natBle, decide_eq_true (by have : o + min m dl ≤ mm := hle1; omega)]
                cases s
                exact ⟨rfl, rfl⟩
              obtain ⟨v0, s0, h12, hpc0, h13⟩ := copyG_sound (D := Dn.mk ρ (.int .i64 (.lit (.ofNat (min m dl)))) ⟨s.hp.set j (.cells mm (setL .nil o l) (some (.int .u8 (.lit n))) T1 r1), s.nx, s.pc⟩) (ρ := ρ) hT hu hs hm hdl hmem
              obtain ⟨rfl, rfl⟩ := h12
              obtain ⟨y, w', q1, q2, q3⟩ := h13 hg ha hb'
              refine ⟨y, w', q1, ?_, q3⟩
              have q4 := q2.swap (id := j) (n := mm) (c := setL .nil o l) (d := some (.int .u8 (.lit n))) (T := T1) (r := r1) (c' := .nil) (d' := some (.int .u8 (.lit n))) (by simp [Tr.get_set]) fun i hi => by
                unfold celA
                rw [setL_get, Tr.get_nil]
                by_cases h : o ≤ i ∧ i < o + l.length
                · rw [if_pos h, hel (i - o) (by omega)]
                · rw [if_neg h]
              simpa [Tr.set_set, Tr.set_same hj] using q4
            · exact copyG_sound hT hu hs hm hdl h8
          · exact copyG_sound hT hu hs hm hdl h7
        · exact copyG_sound hT hu hs hm hdl h4
      · exact copyG_sound hT hu hs hm hdl h4
    · exact copyG_sound hT hu hs hm hdl h4
  · cases h1

/-! grown -/
theorem growBy_le (n : Nat) : ∀ (k c : Nat), c ≤ 2 * n + 1000 → (c < n → c + (c + 768) / 4 ≤ 2 * n + 1000) → Builtin.growBy n k c ≤ 2 * n + 1000
  | 0, c, h, _ => h
  | k + 1, c, h, h2 => by
    rw [Builtin.growBy]
    split
    · exact h
    · exact growBy_le n k _ (h2 (by omega)) (fun _ => by omega)
theorem nextcap_le {need cap : Nat} (h : cap < need) : Builtin.nextslicecap need cap ≤ 2 * need + 1000 := by
  unfold Builtin.nextslicecap
  split
  · omega
  · split
    · omega
    · exact growBy_le need 4 cap (by omega) (fun _ => by omega)
theorem zeroCells_size (z : Array Value) (n : Nat) : (Builtin.zeroCells z n).size = n * z.size := by simp [Builtin.zeroCells]

theorem cellsK_cases (v : AV) : (∃ l, (∀ {α : Type} (no : α) (κ : List AV → α), cellsK no v κ = κ l)) ∨ (∀ {α : Type} (no : α) (κ : List AV → α), cellsK no v κ = no) := by
  cases v with
  | agg l => exact .inl ⟨l, fun _ _ => rfl⟩
  | tup l => exact .inr fun _ _ => rfl
  | opq v => exact .inr fun _ _ => rfl
  | raw v =>
    cases hv : rawOk v with
    | false => exact .inr fun no κ => by simp only [cellsK, hv]
    | true => exact .inl ⟨[.raw v], fun no κ => by simp only [cellsK, hv]⟩
  | int k e => exact .inl ⟨[.int k e], fun _ _ => rfl⟩
  | bool b => exact .inl ⟨[.bool b], fun _ _ => rfl⟩
  | ptr i o => exact .inl ⟨[.ptr i o], fun _ _ => rfl⟩
  | sl i o n c => exact .inl ⟨[.sl i o n c], fun _ _ => rfl⟩
  | emp i o n => exact .inl ⟨[.emp i o n], fun _ _ => rfl⟩
  | em0 i o n => exact .inl ⟨[.em0 i o n], fun _ _ => rfl⟩
  | map i => exact .inl ⟨[.map i], fun _ _ => rfl⟩
  | fn f a b => exact .inl ⟨[.fn f a b], fun _ _ => rfl⟩
  | iface t v => exact .inl ⟨[.iface t v], fun _ _ => rfl⟩
  | osl p k c => exact .inl ⟨[.osl p k c], fun _ _ => rfl⟩
  | ssl i a b c d => exact .inl ⟨[.ssl i a b c d], fun _ _ => rfl⟩
  | fsl a b c d => exact .inl ⟨[.fsl a b c d], fun _ _ => rfl⟩
  | dfr f a r => exact .inr fun _ _ => rfl
theorem growOk_spec {e sz need : Nat} (h : growOk P e sz need = true) : ∃ i z, P.info? e = some i ∧ zeroA P e = some z ∧ i.bytes ≠ 0 ∧ 0 < sz ∧ (2 * need + 1000) * i.bytes ≤ 281474976710656 ∧ ∀ {φ : List Pl} {ρ : Nat → Int} {x : Value}, conc φ ρ z = some x → x.cells.size = sz := by
  unfold growOk at h
  split at h
  · rename_i by_ hb
    simp only [bytesA, Option.map_eq_some_iff] at hb
    obtain ⟨i, hi, rfl⟩ := hb
    split at h
    · rename_i z hz
      rcases cellsK_cases z with ⟨l, hl⟩ | hno
      · rw [hl] at h
        simp only [Bool.and_eq_true, natBeq, natBlt, natBle, lenL_eq, decide_eq_true_eq, Bool.not_eq_true', decide_eq_false_iff_not] at h
        refine ⟨i, z, hi, hz, h.2.1, h.2.2.1, h.2.2.2, fun {φ ρ x} hx => ?_⟩
        obtain ⟨l', h1, h2⟩ := cellsK_inv (D := ⟨fun _ => 0, undefA, s0 [] [] []⟩) (n := 0) (v := z) (κ := fun l' => Bool.rec (motive := fun _ => R) (.fail 0) (.done undefA (s0 [] [] [])) (Nat.beq l'.length sz)) (by rw [hl, h.1, natBeq]; simp only [decide_true]; exact ⟨rfl, rfl⟩)
        obtain ⟨h3, _⟩ := brec_inv h1
        rw [natBeq] at h3
        rw [← Array.length_toList, concL_length (h2 hx), of_decide_eq_true h3]
      · rw [hno] at h; cases h
    · cases h
  · cases h

theorem run_choose_cap {w : World} {need old e : Nat} (hn : need < 9223372036854775808) : ∃ c, need ≤ c ∧ (choose (.appendCap need old e)).run P w = .ok c { w with drawn := w.drawn + 1 } := by
  refine ⟨need + (w.tape w.drawn (.appendCap need old e)) % (2 ^ 63 - need), by omega, ?_⟩
  simp [choose, Sem.run, Question.forced, Question.cut]

/-- the model's append, a new row -/
theorem append_new {w : World} {Ts : Array TypeId} {T e sz sLen n sCap : Nat} {p : Option Addr} {y : Value} {need : Nat} (hT : Ts[0]? = some T) (hn1 : notIntT P (Ts[1]?) = true) (hu : P.underlying T = some (.slice e)) (hs : sizeA P e = some sz) (hlen : (Builtin.lenOf y).run P w = .ok n w)
    (hneed : need = sLen + n) (hcap : sCap < need) (hok : growOk P e sz need = true)
    (old new : Array Value) (ho : ∀ w' : World, w'.heap = w.heap → (Builtin.firstCells sz sLen (.slice p sLen sCap)).run P w' = .ok old w') (hnw : ∀ w' : World, w'.heap = w.heap → (Builtin.firstCells sz n y).run P w' = .ok new w') (hos : old.size = sLen * sz) (hns : new.size = n * sz) :
    ∃ c rest, need ≤ c ∧ (old ++ new ++ rest : Array Value).size = c * sz ∧ ∀ R', (Builtin.append_ Ts R' #[.slice p sLen sCap, y]).run P w = .ok (.slice (some ⟨w.heap.size, 0, none⟩) need c) { w with drawn := w.drawn + 1, heap := w.heap.push (.cells (old ++ new ++ rest) e) } := by
  obtain ⟨i, z, hi, hz, hb0, hsz0, hmax, hcb⟩ := growOk_spec hok
  have hneed63 : need < 9223372036854775808 := by
    have : (2 * need + 1000) * 1 ≤ (2 * need + 1000) * i.bytes := Nat.mul_le_mul_left _ (by omega)
    omega
  obtain ⟨c, hc, hrun⟩ := run_choose_cap (P := P) (w := w) (need := need) (old := sCap) (e := e) hneed63
  obtain ⟨zv, hzr, hzc⟩ := zero_conc hz (w := { w with drawn := w.drawn + 1 }) (φ := []) (ρ := fun _ => 0)
  have hzs := hcb hzc
  refine ⟨c, Builtin.zeroCells zv.cells (c - need), hc, ?_, fun R' => ?_⟩
  · rw [Array.size_append, Array.size_append, zeroCells_size, hos, hns, hzs, ← Nat.add_mul, ← Nat.add_mul, ← hneed]
    congr 1; omega
  · obtain ⟨T1, hT1, hT2⟩ : ∃ T1, Ts[1]? = some T1 ∧ ∃ d, P.underlying T1 = some d ∧ (∀ k, d ≠ .int k) := by
      unfold notIntT at hn1
      split at hn1
      · rename_i T1 h1
        split at hn1
        · cases hn1
        · rename_i d h2 h3
          exact ⟨_, h1, d, h3, h2⟩
        · cases hn1
      · cases hn1
    obtain ⟨d, hd, hdi⟩ := hT2
    have hnc := nextcap_le (need := need) (cap := sCap) hcap
    have hbig : ¬ (Builtin.nextslicecap need sCap * i.bytes > 2 ^ 48) := by
      have := Nat.mul_le_mul_right i.bytes hnc
      omega
    unfold Builtin.append_
    simp only [hT, hT1, List.getElem?_toArray, List.getElem?_cons_zero, List.getElem?_cons_succ, Sem.run_bind, run_underlying hu, Result.andThen_ok, run_size hs, run_underlying hd, Sem.run_pure]
    have hz0 : (match d with | .int _ => true | _ => false) = false := by
      cases d <;> first | rfl | exact absurd rfl (hdi _)
    simp only [hz0, Bool.false_eq_true, if_false, Sem.run_bind, hlen, Result.andThen_ok]
    subst hneed
    have h63 : ¬ (((sLen + n : Nat) : Int) > IntKind.i64.max ∧ (False ∨ i.bytes = 0)) := by
      rintro ⟨_, h | h⟩
      · exact h
      · exact hb0 h
    simp only [show ¬ (sLen + n ≤ sCap) by omega, if_false, Sem.run_bind, run_ti hi, Result.andThen_ok, h63, hbig, Bool.not_false, if_true, hrun, run_askRoom, ho { w with drawn := w.drawn + 1 } rfl, hnw { w with drawn := w.drawn + 1 } rfl, hzr, run_newRow, Sem.run_pure]
/-- .. in its place -/
theorem append_in {w w' : World} {Ts : Array TypeId} {T e sz sLen n sCap : Nat} {p : Option Addr} {y : Value} (hT : Ts[0]? = some T) (hn1 : notIntT P (Ts[1]?) = true) (hu : P.underlying T = some (.slice e)) (hs : sizeA P e = some sz) (hlen : (Builtin.lenOf y).run P w = .ok n w)
    (hcap : sLen + n ≤ sCap) (new : Array Value) (hnw : (Builtin.firstCells sz n y).run P w = .ok new w) (hst : (match p with | some a => storeCells (a.add (sLen * sz)) new.toList | none => pure ()).run P w = .ok () w') :
    ∀ R', (Builtin.append_ Ts R' #[.slice p sLen sCap, y]).run P w = .ok (.slice p (sLen + n) sCap) w' := by
  intro R'
  obtain ⟨T1, hT1, hT2⟩ : ∃ T1, Ts[1]? = some T1 ∧ ∃ d, P.underlying T1 = some d ∧ (∀ k, d ≠ .int k) := by
    unfold notIntT at hn1
    split at hn1
    · rename_i T1 h1
      split at hn1
      · cases hn1
      · rename_i d h2 h3
        exact ⟨_, h1, d, h3, h2⟩
      · cases hn1
    · cases hn1
  obtain ⟨d, hd, hdi⟩ := hT2
  unfold Builtin.append_
  simp only [hT, hT1, List.getElem?_toArray, List.getElem?_cons_zero, List.getElem?_cons_succ, Sem.run_bind, run_underlying hu, Result.andThen_ok, run_size hs, run_underlying hd, Sem.run_pure]
  have hz0 : (match d with | .int _ => true | _ => false) = false := by
    cases d <;> first | rfl | exact absurd rfl (hdi _)
  simp only [hz0, Bool.false_eq_true, if_false, Sem.run_bind, hlen, Result.andThen_ok, hcap, if_true, Bool.not_false, hnw]
  cases p with
  | none =>
    simp only [Sem.run_pure, Result.ok.injEq, true_and] at hst
    subst hst
    rfl
  | some q =>
    simp only at hst
    simp only [Sem.run_bind, hst, Result.andThen_ok, Sem.run_pure]

/-- a row that was grown, new -/
theorem grow_new {e sz need sLen n : Nat} {s : St} {κ : AV → St → R} {old new : List AV} (hD : growK P s e sz need old new κ ∈ D) (hs : sizeA P e = some sz) (hneed : need = sLen + n) : growOk P e sz need = true ∧ ∃ v s', κ v s' ∈ D ∧ s'.pc = s.pc ∧
    (∀ {w0 : Base} {φ : List Pl} {w : World} {Ts T sCap p y}, Gm P ρ w0 φ s w → Ts[0]? = some T → notIntT P (Ts[1]?) = true → P.underlying T = some (.slice e) → (Builtin.lenOf y).run P w = .ok n w → sCap < need →
      ∀ (oa na : Array Value), (∀ w' : World, w'.heap = w.heap → (Builtin.firstCells sz sLen (.slice p sLen sCap)).run P w' = .ok oa w') → (∀ w' : World, w'.heap = w.heap → (Builtin.firstCells sz n y).run P w' = .ok na w') →
      concL φ ρ old = some oa.toList → concL φ ρ new = some na.toList → old.length = sLen * sz → new.length = n * sz →
      ∃ φ' z w', φ <+: φ' ∧ conc φ' ρ v = some z ∧ Gm P ρ w0 φ' s' w' ∧ ∀ R', (Builtin.append_ Ts R' #[.slice p sLen sCap, y]).run P w = .ok z w') ∧
    (∀ {w0 : Base} {φ : List Pl} {w : World} {pl : Pl} {q arr fz} {xs : List Value}, Gm P ρ w0 φ s w → concL φ ρ (old ++ new) = some xs → pl.es = sz → w0.w0.heap.size ≤ pl.blk → pl.blk < w.heap.size → (∀ i o' q, s.hp.get i = some o' → live o' = true → φ[i]? = some q → q.blk ≠ pl.blk) →
      w.heap[pl.blk]? = some (.cells arr e fz) → arr.size = pl.sz → pl.sh + q + (old ++ new).length ≤ pl.sz → (∀ i, i < pl.sz → ¬ (fz.1 ≤ i ∧ i < fz.2)) → (∀ i, i < (old ++ new).length → arr[pl.sh + q + i]? = xs[i]?) → (∀ x ∈ w0.fr, pl.blk ≠ x.1) →
      ∃ φ', φ <+: φ' ∧ conc φ' ρ v = some (.slice (some ⟨pl.blk, pl.sh + q, none⟩) need (pl.room q)) ∧ Gm P ρ w0 φ' s' w) := by
  obtain ⟨hok, h1⟩ := brec_inv hD
  obtain ⟨s', h2, hpc, h3⟩ := newL_sound (P := P) (ρ := ρ) h1
  obtain ⟨i, z, hi, hz, hb0, hsz0, hmax, hcb⟩ := growOk_spec hok
  refine ⟨hok, _, s', h2, hpc, fun {w0 φ w Ts T sCap p y} hg hT hn1 hu hlen hcap oa na ho hnw hco hcn hol hnl => ?_, fun {w0 φ w pl q arr fz xs} hg hx hes hlo hhi hfree hb hsz hle hfr hc hfo => ?_⟩
  · have hoa : oa.size = sLen * sz := by rw [← Array.length_toList, concL_length hco, hol]
    have hna : na.size = n * sz := by rw [← Array.length_toList, concL_length hcn, hnl]
    obtain ⟨c, rest, q1, q2, q3⟩ := append_new hT hn1 hu hs hlen hneed hcap hok oa na ho hnw hoa hna
    let w1 : World := { w with drawn := w.drawn + 1 }
    have hg1 : Gm P ρ w0 φ s w1 := hg.world (hg.kp.drew) (Nat.le_refl _) (fun _ _ _ _ _ _ => rfl) (fun _ _ _ _ => rfl)
    have hx : concL φ ρ (old ++ new) = some (oa.toList ++ na.toList) := concL_append.2 ⟨_, _, hco, hcn, rfl⟩
    have hm := h3 (p := ⟨w.heap.size, 0, c * sz, sz⟩) (arr := oa ++ na ++ rest) (fz := (0, 0)) (hg1.push (.cells (oa ++ na ++ rest) e)) hx hg.kp.size (by simp [w1]) (fun i o' q hi hl hq he => by have := (hg.lo i q hq).2; simp only at he; omega)
      (by simp [w1]) q2 (by simp only [Nat.zero_add, List.length_append, hol, hnl, ← Nat.add_mul, ← hneed]; exact Nat.mul_le_mul_right _ q1) (fun h => by cases h) (fun _ => ⟨hs, hsz0⟩) (fun i _ h => by simp at h) (fun i hi => by
        simp only [Nat.zero_add]
        rw [← Array.getElem?_toList, Array.toList_append, Array.toList_append, List.getElem?_append_left (by rw [← concL_length hx] at hi; exact hi)]) (fun x hx => Nat.ne_of_gt (hg.fr x hx).1)
    have hnx : (φ ++ [(⟨w.heap.size, 0, c * sz, sz⟩ : Pl)])[s.nx]? = some ⟨w.heap.size, 0, c * sz, sz⟩ := by rw [← hg.len]; simp
    refine ⟨_, _, _, pre_one _ _, ?_, hm, q3⟩
    simp only [conc, hnx, Option.map_some, Option.getD_none, Pl.room, Nat.add_zero, Nat.sub_zero, Nat.zero_add, show nat_lit 0 = 0 from rfl]
    rw [Nat.mul_div_cancel _ hsz0]
  · have hm := h3 (p := ⟨pl.blk, pl.sh + q, pl.sz, pl.es⟩) hg hx hlo hhi hfree hb hsz hle (fun h => by cases h) (fun _ => ⟨by rw [hes]; exact hs, by rw [hes]; exact hsz0⟩) hfr hc hfo
    refine ⟨_, pre_one _ _, ?_, hm⟩
    rw [show (AV.sl s.nx (nat_lit 0) need none) = AV.sl s.nx 0 need none from rfl]
    simp only [conc]
    rw [show (φ ++ [(⟨pl.blk, pl.sh + q, pl.sz, pl.es⟩ : Pl)])[s.nx]? = some ⟨pl.blk, pl.sh + q, pl.sz, pl.es⟩ by rw [← hg.len]; simp]
    simp [Pl.room]
end

end Go.Proofs.YticednpolhnneaaGreat
