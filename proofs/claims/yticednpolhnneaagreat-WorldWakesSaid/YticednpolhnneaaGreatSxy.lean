/-
  A run reckoned ahead: structs and arrays of numbers.
-/
import Derived.Test.YticednpolhnneaaGreatSxd
set_option linter.unusedVariables false
set_option linter.unusedSimpArgs false
namespace Go.Proofs.YticednpolhnneaaGreat
open Go

section
variable {P : Program} {D : Dn} {h : Tr AObj}
/-! values of several numbers -/
/-- two rows of numbers, held against one another -/
inductive RowCmp : List Value → List Value → Bool → Prop
  | nil : RowCmp [] [] true
  | ne {k : IntKind} {a b : Int} {xs ys : List Value} (h : a ≠ b) : RowCmp (.int k a :: xs) (.int k b :: ys) false
  | eq {k : IntKind} {a : Int} {xs ys : List Value} {r : Bool} (h : RowCmp xs ys r) : RowCmp (.int k a :: xs) (.int k a :: ys) r
theorem RowCmp.same : ∀ {xs ys : List Value}, RowCmp xs ys true → xs = ys ∧ ∀ v ∈ xs, ∃ k n, v = Value.int k n
  | _, _, .nil => ⟨rfl, by simp⟩
  | _, _, .eq h => by
    obtain ⟨rfl, h2⟩ := h.same
    refine ⟨rfl, fun v hv => ?_⟩
    rcases List.mem_cons.1 hv with rfl | hv
    · exact ⟨_, _, rfl⟩
    · exact h2 v hv
theorem lenC_eq : ∀ (l : List AV), lenC l = l.length
  | [] => rfl
  | _ :: l => by show Nat.succ (lenC l) = l.length + 1; rw [lenC_eq l]
theorem eqCells_inv : ∀ {l m : List AV} {pc : PC} {κ : Bool → PC → R}, eqCells l m pc κ ∈ D → ∃ b pc', κ b pc' ∈ D ∧ PcExt pc pc' ∧ ∀ {φ ρ xs ys}, Holds ρ pc' → concL φ ρ l = some xs → concL φ ρ m = some ys → RowCmp xs ys b
  | [], m, pc, κ, hD => by
    cases m with
    | nil => exact ⟨true, pc, hD, .refl _, fun {φ ρ xs ys} _ h1 h2 => by
        simp only [concL, Option.some.injEq] at h1 h2
        subst h1; subst h2
        exact .nil⟩
    | cons y m => cases hD
  | x :: l, m, pc, κ, hD => by
    cases m with
    | nil => cases hD
    | cons y m =>
      have hD : asInt x (fun k a => asInt y fun k' b => Bool.rec (motive := fun _ => R) (.fail 202) (cmpK .eql a b fun c => decK pc c fun b pc => Bool.rec (motive := fun _ => R) (κ false pc) (eqCells l m pc κ) b) (kindEq k k')) ∈ D := hD
      obtain ⟨k, a, rfl, h1⟩ := asInt_inv hD
      obtain ⟨k', b, rfl, h2⟩ := asInt_inv h1
      obtain ⟨hk, h3⟩ := brec_inv h2
      have hk := kindEq_of hk
      subst hk
      obtain ⟨c, hc, hev⟩ := cmpK_spec .eql a b (fun c => decK pc c fun b pc => Bool.rec (motive := fun _ => R) (κ false pc) (eqCells l m pc κ) b)
      rw [hc] at h3
      obtain ⟨d, pc1, h4, x1, hd⟩ := decK_inv h3
      rcases brec_cases h4 with ⟨rfl, h5⟩ | ⟨rfl, h5⟩
      · obtain ⟨r, pc2, h6, x2, h7⟩ := eqCells_inv h5
        refine ⟨r, pc2, h6, x1.trans x2, fun {φ ρ xs ys} hρ hx hy => ?_⟩
        obtain ⟨u, us, e1, e2, rfl⟩ := concL_cons.1 hx
        obtain ⟨v, vs, e3, e4, rfl⟩ := concL_cons.1 hy
        simp only [conc, Option.some.injEq] at e1 e3
        subst e1; subst e3
        have := hd ρ (hρ.of_ext x2)
        rw [hev] at this
        have : a.ev ρ = b.ev ρ := by simpa [cmpZ] using this
        rw [this]
        exact .eq (h7 hρ e2 e4)
      · refine ⟨false, pc1, h5, x1, fun {φ ρ xs ys} hρ hx hy => ?_⟩
        obtain ⟨u, us, e1, e2, rfl⟩ := concL_cons.1 hx
        obtain ⟨v, vs, e3, e4, rfl⟩ := concL_cons.1 hy
        simp only [conc, Option.some.injEq] at e1 e3
        subst e1; subst e3
        have := hd ρ hρ
        rw [hev] at this
        exact .ne (by simpa [cmpZ] using this)
theorem plainInt_und {T : TypeId} (h : plainInt P T = true) : ∃ k, P.underlying T = some (.int k) := by
  unfold plainInt at h
  split at h
  · exact ⟨_, by assumption⟩
  · cases h
theorem part_int {T : TypeId} (h : plainInt P T = true) {xs : Array Value} {off : Nat} {v : Value} (hx : xs[off]? = some v) {w : World} : (part T xs off).run P w = .ok v w := by
  obtain ⟨k, hu⟩ := plainInt_und h
  simp [part, isAgg, run_underlying hu, hx]
theorem fieldsFlat_cons {f : Field} {fs : List Field} {n : Nat} (h : fieldsFlat P (f :: fs) n = true) : f.name ≠ "_" ∧ plainInt P f.type = true ∧ f.offset = n ∧ fieldsFlat P fs (n + 1) = true := by
  have h : ((f.name != "_") && (plainInt P f.type && (Nat.beq f.offset n && fieldsFlat P fs (Nat.succ n)))) = true := h
  simp only [Bool.and_eq_true, natBeq, decide_eq_true_eq, bne_iff_ne] at h
  exact ⟨h.1, h.2.1, h.2.2.1, h.2.2.2⟩
theorem eqFields_row {d : Nat} {xs ys : Array Value} {w : World} : ∀ (fs : List Field) (n : Nat) {b : Bool} {us vs : List Value}, fieldsFlat P fs n = true → us = xs.toList.drop n → vs = ys.toList.drop n → us.length = fs.length → RowCmp us vs b → (Op.eqFields (d + 1) xs ys fs).run P w = .ok b w
  | [], n, b, us, vs, hf, hu, hv, hl, hr => by
    have : us = [] := by simpa using hl
    subst this
    cases hr
    rfl
  | f :: fs, n, b, us, vs, hf, hu, hv, hl, hr => by
    obtain ⟨h1, h2, h3, h4⟩ := fieldsFlat_cons hf
    obtain ⟨k, hk⟩ := plainInt_und h2
    have get : ∀ {zs : Array Value} {z : Value} {rest : List Value}, z :: rest = zs.toList.drop n → zs[n]? = some z ∧ rest = zs.toList.drop (n + 1) := by
      intro zs z rest e
      have e0 := congrArg (·[0]?) e
      simp only [List.getElem?_cons_zero, List.getElem?_drop, Nat.add_zero] at e0
      have e1 := congrArg (List.drop 1) e
      simp only [List.drop_succ_cons, List.drop_zero, List.drop_drop] at e1
      exact ⟨by simpa using e0.symm, e1⟩
    cases hr with
    | nil => simp at hl
    | ne hne =>
      obtain ⟨gx, _⟩ := get hu
      obtain ⟨gy, _⟩ := get hv
      simp only [Op.eqFields, h1, ne_eq, not_false_eq_true, if_true, Sem.run_bind, h3, part_int h2 gx, part_int h2 gy, Result.andThen_ok, run_equalIn_int _ _ _ _ _ _ _ hk]
      simp [hne]
    | eq h =>
      obtain ⟨gx, ex⟩ := get hu
      obtain ⟨gy, ey⟩ := get hv
      simp only [Op.eqFields, h1, ne_eq, not_false_eq_true, if_true, Sem.run_bind, h3, part_int h2 gx, part_int h2 gy, Result.andThen_ok, run_equalIn_int _ _ _ _ _ _ _ hk]
      simpa using eqFields_row fs (n + 1) h4 ex ey (by simpa using hl) h
theorem eqItems_row {d : Nat} {e : TypeId} (he : plainInt P e = true) {xs ys : Array Value} {w : World} : ∀ (m n : Nat) {b : Bool} {us vs : List Value}, us = xs.toList.drop n → vs = ys.toList.drop n → us.length = m → RowCmp us vs b → (Op.eqItems (d + 1) e 1 xs ys (List.range' n m)).run P w = .ok b w
  | 0, n, b, us, vs, hu, hv, hl, hr => by
    have : us = [] := by simpa using hl
    subst this
    cases hr
    rfl
  | m + 1, n, b, us, vs, hu, hv, hl, hr => by
    obtain ⟨k, hk⟩ := plainInt_und he
    have get : ∀ {zs : Array Value} {z : Value} {rest : List Value}, z :: rest = zs.toList.drop n → zs[n]? = some z ∧ rest = zs.toList.drop (n + 1) := by
      intro zs z rest e
      have e0 := congrArg (·[0]?) e
      simp only [List.getElem?_cons_zero, List.getElem?_drop, Nat.add_zero] at e0
      have e1 := congrArg (List.drop 1) e
      simp only [List.drop_succ_cons, List.drop_zero, List.drop_drop] at e1
      exact ⟨by simpa using e0.symm, e1⟩
    rw [List.range'_succ]
    cases hr with
    | nil => simp at hl
    | ne hne =>
      obtain ⟨gx, _⟩ := get hu
      obtain ⟨gy, _⟩ := get hv
      simp only [Op.eqItems, Sem.run_bind, Nat.mul_one, part_int he gx, part_int he gy, Result.andThen_ok, run_equalIn_int _ _ _ _ _ _ _ hk]
      simp [hne]
    | eq h =>
      obtain ⟨gx, ex⟩ := get hu
      obtain ⟨gy, ey⟩ := get hv
      simp only [Op.eqItems, Sem.run_bind, Nat.mul_one, part_int he gx, part_int he gy, Result.andThen_ok, run_equalIn_int _ _ _ _ _ _ _ hk]
      simpa using eqItems_row he m (n + 1) ex ey (by simpa using hl) h
theorem oneCellT_info {T : TypeId} (h : oneCellT P T = true) : ∃ i, P.info? T = some i ∧ P.cellsOf T = 1 := by
  unfold oneCellT at h
  split at h
  · rename_i i hi
    rw [natBeq, decide_eq_true_eq] at h
    exact ⟨i, hi, by simp [Program.cellsOf, hi, h]⟩
  · cases h
/-- a flat type: what it is -/
theorem flatT_cases {T : TypeId} {n : Nat} (h : flatT P T = some n) : (∃ fs, P.underlying T = some (.struct fs) ∧ fieldsFlat P fs.toList 0 = true ∧ P.stoodInHeld T = false ∧ n = fs.size) ∨ (∃ e, P.underlying T = some (.array n e) ∧ plainInt P e = true ∧ oneCellT P e = true) := by
  unfold flatT at h
  split at h
  · rename_i fs hu
    cases hb : (fieldsFlat P fs.toList (nat_lit 0) && notF (P.stoodInHeld T)) with
    | false => rw [hb] at h; cases h
    | true =>
      rw [hb] at h
      simp only [Bool.and_eq_true, notF_eq, Bool.not_eq_true'] at hb
      exact .inl ⟨fs, hu, hb.1, hb.2, (Option.some.inj h).symm⟩
  · rename_i m e hu
    cases hb : (plainInt P e && oneCellT P e) with
    | false => rw [hb] at h; cases h
    | true =>
      rw [hb] at h
      simp only [Bool.and_eq_true] at hb
      cases Option.some.inj h
      exact .inr ⟨e, hu, hb.1, hb.2⟩
  · cases h
theorem equal_flat {T : TypeId} {n : Nat} (hT : flatT P T = some n) {xs ys : List Value} {b : Bool} (hx : xs.length = n) (hr : RowCmp xs ys b) {d : Nat} {w : World} : (Op.equalIn (d + 2) T (.agg xs.toArray) (.agg ys.toArray)).run P w = .ok b w := by
  rcases flatT_cases hT with ⟨fs, hu, h1, h2, rfl⟩ | ⟨e, hu, h1, h2⟩
  · have hfs : P.fieldsOf T = fs := by simp [Program.fieldsOf, hu]
    rw [run_equalIn_struct w (d + 1) T _ _ (by rw [hfs]; exact hu) h2, hfs]
    exact eqFields_row fs.toList 0 h1 rfl rfl (by simpa using hx) hr
  · obtain ⟨i, hi, hc⟩ := oneCellT_info h2
    rw [run_equalIn_array w (d + 1) _ _ hu hi, hc, List.range_eq_range']
    exact eqItems_row h1 n 0 rfl rfl hx hr
theorem checkKey_int {w : World} {e : Bool} {n : Nat} {T : TypeId} {v : Value} (hu : plainInt P T = true) : (Instr.checkKey e (n + 1) T v).run P w = .ok () w := by
  obtain ⟨k, hk⟩ := plainInt_und hu
  rw [Instr.checkKey, Sem.run_bind, run_underlying hk]
  rfl
theorem checkKey_flat {T : TypeId} {n : Nat} (hT : flatT P T = some n) {xs : List Value} (hx : xs.length = n) {e : Bool} {d : Nat} {w : World} : (Instr.checkKey e (d + 2) T (.agg xs.toArray)).run P w = .ok () w := by
  have ck : ∀ {T : TypeId} {v : Value}, plainInt P T = true → (Instr.checkKey e (d + 1) T v).run P w = .ok () w := fun h => checkKey_int h
  rw [show d + 2 = (d + 1) + 1 from rfl]
  generalize d + 1 = q at ck ⊢
  rcases flatT_cases hT with ⟨fs, hu, h1, h2, rfl⟩ | ⟨el, hu, h1, h2⟩
  · rw [Instr.checkKey]
    simp only [Sem.run_bind, run_underlying hu, Result.andThen_ok]
    rw [← Array.forIn_toList]
    have hx : xs.length = 0 + fs.toList.length := by simpa using hx
    revert h1 hx
    generalize fs.toList = l
    generalize 0 = m
    clear hu
    intro h1 hx
    induction l generalizing m with
    | nil => rfl
    | cons f l ih =>
      obtain ⟨q1, q2, q3, q4⟩ := fieldsFlat_cons h1
      have hm : m < xs.length := by rw [hx]; simp
      have hg : xs.toArray[f.offset]? = some xs[m] := by rw [q3]; simp [hm]
      simp only [List.forIn_cons, Sem.run_bind, q1, ne_eq, not_false_eq_true, if_true, part_int q2 hg, Result.andThen_ok, ck q2, Sem.run_pure]
      exact ih (m + 1) q4 (by rw [hx]; simp; omega)
  · obtain ⟨i, hi, hc⟩ := oneCellT_info h2
    rw [Instr.checkKey]
    simp only [Sem.run_bind, run_underlying hu, Result.andThen_ok]
    simp only [Std.Legacy.Range.forIn_eq_forIn_range', Std.Legacy.Range.size, Nat.sub_zero, Nat.add_one_sub_one, Nat.div_one]
    have hy : xs.length = 0 + n := by simpa using hx
    clear hx hu hT
    revert hy
    generalize 0 = m
    intro hx
    induction n generalizing m with
    | zero => rfl
    | succ n ih =>
      have hm : m < xs.length := by rw [hx]; omega
      have hg : xs.toArray[m * 1]? = some xs[m] := by simp [hm]
      simp only [List.range'_succ, List.forIn_cons, Sem.run_bind, run_sizeOf w hi, hc, Result.andThen_ok, part_int h1 hg, ck h1, Sem.run_pure]
      exact ih (m + 1) (by rw [hx]; omega)
theorem litB_inv {c : SB} {κ : Bool → R} (h : litB c κ ∈ D) : ∃ b, c = .lit b ∧ κ b ∈ D := by
  unfold litB at h
  split at h
  · exact ⟨_, rfl, h⟩
  · cases h
theorem eqLits_inv : ∀ {l m : List AV} {κ : Bool → R}, eqLits l m κ ∈ D → ∃ b, κ b ∈ D ∧ ∀ {φ ρ xs ys}, concL φ ρ l = some xs → concL φ ρ m = some ys → RowCmp xs ys b
  | [], m, κ, hD => by
    cases m with
    | nil => exact ⟨true, hD, fun {φ ρ xs ys} h1 h2 => by
        simp only [concL, Option.some.injEq] at h1 h2
        subst h1; subst h2
        exact .nil⟩
    | cons y m => cases hD
  | x :: l, m, κ, hD => by
    cases m with
    | nil => cases hD
    | cons y m =>
      have hD : asInt x (fun k a => asInt y fun k' b => Bool.rec (motive := fun _ => R) (.fail 202) (cmpK .eql a b fun c => litB c fun b => Bool.rec (motive := fun _ => R) (κ false) (eqLits l m κ) b) (kindEq k k')) ∈ D := hD
      obtain ⟨k, a, rfl, h1⟩ := asInt_inv hD
      obtain ⟨k', b, rfl, h2⟩ := asInt_inv h1
      obtain ⟨hk, h3⟩ := brec_inv h2
      have hk := kindEq_of hk
      subst hk
      obtain ⟨c, hc, hev⟩ := cmpK_spec .eql a b (fun c => litB c fun b => Bool.rec (motive := fun _ => R) (κ false) (eqLits l m κ) b)
      rw [hc] at h3
      obtain ⟨d, rfl, h4⟩ := litB_inv h3
      rcases brec_cases h4 with ⟨rfl, h5⟩ | ⟨rfl, h5⟩
      · obtain ⟨r, h6, h7⟩ := eqLits_inv h5
        refine ⟨r, h6, fun {φ ρ xs ys} hx hy => ?_⟩
        obtain ⟨u, us, e1, e2, rfl⟩ := concL_cons.1 hx
        obtain ⟨v, vs, e3, e4, rfl⟩ := concL_cons.1 hy
        simp only [conc, Option.some.injEq] at e1 e3
        subst e1; subst e3
        have := hev ρ
        have : a.ev ρ = b.ev ρ := by simpa [cmpZ, SB.ev] using this
        rw [this]
        exact .eq (h7 e2 e4)
      · refine ⟨false, h5, fun {φ ρ xs ys} hx hy => ?_⟩
        obtain ⟨u, us, e1, e2, rfl⟩ := concL_cons.1 hx
        obtain ⟨v, vs, e3, e4, rfl⟩ := concL_cons.1 hy
        simp only [conc, Option.some.injEq] at e1 e3
        subst e1; subst e3
        have := hev ρ
        exact .ne (by simpa [cmpZ, SB.ev] using this)
theorem aggV_inv {v : AV} {n : Nat} {κ : List AV → R} (h : aggV v n κ ∈ D) : ∃ l, v = .agg l ∧ κ l ∈ D := by
  unfold aggV at h
  split at h
  · exact ⟨_, rfl, h⟩
  · cases h
theorem conc_agg' {φ : List Pl} {ρ : Nat → Int} {l : List AV} {a : Value} (h : conc φ ρ (.agg l) = some a) : ∃ xs, concL φ ρ l = some xs ∧ a = .agg xs.toArray := by
  simp only [conc, Option.map_eq_some_iff] at h
  obtain ⟨xs, h1, h2⟩ := h
  exact ⟨xs, h1, h2.symm⟩
theorem eqFlat_inv {T : TypeId} {x y : AV} {κ : SB → R} (hD : eqFlat P T x y κ ∈ D) : ∃ b, κ (.lit b) ∈ D ∧ P.eqGuardType P.depth T = false ∧ ∀ {φ ρ a c}, conc φ ρ x = some a → conc φ ρ y = some c → (∃ xs ys, a = .agg xs ∧ c = .agg ys) ∧ ∀ {w}, (Op.equal T a c).run P w = .ok b w := by
  obtain ⟨n, hn, h1⟩ := optK_inv hD
  obtain ⟨hg, h2⟩ := brec_inv h1
  obtain ⟨l, rfl, h3⟩ := aggV_inv h2
  obtain ⟨m, rfl, h4⟩ := aggV_inv h3
  obtain ⟨hl, h5⟩ := brec_inv h4
  obtain ⟨b, h6, h7⟩ := eqLits_inv h5
  rw [notF_eq, Bool.not_eq_true'] at hg
  rw [natBeq, decide_eq_true_eq, lenC_eq] at hl
  refine ⟨b, h6, hg, fun {φ ρ a c} hx hy => ?_⟩
  obtain ⟨xs, hx', rfl⟩ := conc_agg' hx
  obtain ⟨ys, hy', rfl⟩ := conc_agg' hy
  exact ⟨⟨_, _, rfl, rfl⟩, fun {w} => equal_flat hn ((concL_length hx').trans hl) (h7 hx' hy') (d := 9998)⟩
end

end Go.Proofs.YticednpolhnneaaGreat
