/-
  A run reckoned ahead: structs and arrays of numbers.
  A run reckoned ahead: quiet operations do what was reckoned (2).
  A run reckoned ahead: quiet operations do what was reckoned (3).
  Ropes: what is reckoned of bytes whose number is a letter's.
  A run reckoned ahead: quiet operations do what was reckoned (4): slices, maps, parts built, least and greatest; all together.
  Ropes: slices of slices, their lengths, places in them.
  A run reckoned ahead: quiet operations do what was reckoned (5): maps looked up, parts built; all together.
  A run reckoned ahead: each quiet operation does what was reckoned.
  A run reckoned ahead: memory as it goes on.
  A run reckoned ahead: operations with an effect do what was reckoned.
-/
import Derived.Test.YtooebogidjejoaaGreatCb
import Derived.Laws.BytesString
import Derived.Laws.BytesArg
import Derived.Test.YtooebogidjejoaaGreatCa
set_option linter.unusedVariables false
set_option linter.unusedSimpArgs false
namespace Go.Proofs.YtooebogidjejoaaGreat
open Go
section
variable {P : Program} {D : Dn} {h : Tr AObj}
inductive RowCmp : List Value → List Value → Bool → Prop
 | nil : RowCmp [] [] true
 | ne {k : IntKind} {a b : Int} {xs ys : List Value} (h : a ≠ b) : RowCmp (.int k a :: xs) (.int k b :: ys) false
 | eq {k : IntKind} {a : Int} {xs ys : List Value} {r : Bool} (h : RowCmp xs ys r) : RowCmp (.int k a :: xs) (.int k a :: ys) r
theorem RowCmp.same : ∀ {xs ys : List Value}, RowCmp xs ys true → xs = ys ∧ ∀ v ∈ xs, ∃ k n, v = Value.int k n
 | _, _, .nil => ⟨rfl, by simp⟩
 | _, _, .eq h => by
  obtain ⟨rfl, h2⟩ := h.same
  refine ⟨rfl, fun v hv => ?_⟩
  rcases List.mem_cons.1 hv with rfl | hv
  ·exact ⟨_, _, rfl⟩
  ·exact h2 v hv
theorem lenC_eq : ∀ (l : List AV), lenC l = l.length
 | [] => rfl
 | _ :: l => by show Nat.succ (lenC l) = l.length + 1; rw [lenC_eq l]
theorem eqCells_inv : ∀ {l m : List AV} {pc : PC} {κ : Bool → PC → R}, eqCells l m pc κ ∈ D → ∃ b pc', κ b pc' ∈ D ∧ PcExt pc pc' ∧ ∀ {φ ρ xs ys}, Holds ρ pc' → concL φ ρ l = some xs → concL φ ρ m = some ys → RowCmp xs ys b
 | [], m, pc, κ, hD => by
  cases m with
  | nil => exact ⟨true, pc, hD, .refl _, fun {φ ρ xs ys} _ h1 h2 => by
    simp only [concL, Option.some.injEq] at h1 h2
    subst h1; subst h2
    exact .nil⟩
  | cons y m => cases hD
 | x :: l, m, pc, κ, hD => by
  cases m with
  | nil => cases hD
  | cons y m =>
   have hD : asInt x (fun k a => asInt y fun k' b => Bool.rec (motive := fun _ => R) (.fail 202) (cmpK .eql a b fun c => decK pc c fun b pc => Bool.rec (motive := fun _ => R) (κ false pc) (eqCells l m pc κ) b) (kindEq k k')) ∈ D := hD
   obtain ⟨k, a, rfl, h1⟩ := asInt_inv hD
   obtain ⟨k', b, rfl, h2⟩ := asInt_inv h1
   obtain ⟨hk, h3⟩ := brec_inv h2
   have hk := kindEq_of hk
   subst hk
   obtain ⟨c, hc, hev⟩ := cmpK_spec .eql a b (fun c => decK pc c fun b pc => Bool.rec (motive := fun _ => R) (κ false pc) (eqCells l m pc κ) b)
   rw [hc] at h3
   obtain ⟨d, pc1, h4, x1, hd⟩ := decK_inv h3
   rcases brec_cases h4 with ⟨rfl, h5⟩ | ⟨rfl, h5⟩
   ·obtain ⟨r, pc2, h6, x2, h7⟩ := eqCells_inv h5
    refine ⟨r, pc2, h6, x1.trans x2, fun {φ ρ xs ys} hρ hx hy => ?_⟩
    obtain ⟨u, us, e1, e2, rfl⟩ := concL_cons.1 hx
    obtain ⟨v, vs, e3, e4, rfl⟩ := concL_cons.1 hy
    simp only [conc, Option.some.injEq] at e1 e3
    subst e1; subst e3
    have := hd ρ (hρ.of_ext x2)
    rw [hev] at this
    have : a.ev ρ = b.ev ρ := by simpa [cmpZ] using this
    rw [this]
    exact .eq (h7 hρ e2 e4)
   ·refine ⟨false, pc1, h5, x1, fun {φ ρ xs ys} hρ hx hy => ?_⟩
    obtain ⟨u, us, e1, e2, rfl⟩ := concL_cons.1 hx
    obtain ⟨v, vs, e3, e4, rfl⟩ := concL_cons.1 hy
    simp only [conc, Option.some.injEq] at e1 e3
    subst e1; subst e3
    have := hd ρ hρ
    rw [hev] at this
    exact .ne (by simpa [cmpZ] using this)
theorem plainInt_und {T : TypeId} (h : plainInt P T = true) : ∃ k, P.underlying T = some (.int k) := by
 unfold plainInt at h
 split at h
 ·exact ⟨_, by assumption⟩
 ·cases h
theorem part_int {T : TypeId} (h : plainInt P T = true) {xs : Array Value} {off : Nat} {v : Value} (hx : xs[off]? = some v) {w : World} : (part T xs off).run P w = .ok v w := by
 obtain ⟨k, hu⟩ := plainInt_und h
 simp [part, isAgg, run_underlying hu, hx]
theorem fieldsFlat_cons {f : Field} {fs : List Field} {n : Nat} (h : fieldsFlat P (f :: fs) n = true) : f.name ≠ "_" ∧ plainInt P f.type = true ∧ f.offset = n ∧ fieldsFlat P fs (n + 1) = true := by
 have h : ((f.name != "_") && (plainInt P f.type && (Nat.beq f.offset n && fieldsFlat P fs (Nat.succ n)))) = true := h
 simp only [Bool.and_eq_true, natBeq, decide_eq_true_eq, bne_iff_ne] at h
 exact ⟨h.1, h.2.1, h.2.2.1, h.2.2.2⟩
theorem eqFields_row {d : Nat} {xs ys : Array Value} {w : World} : ∀ (fs : List Field) (n : Nat) {b : Bool} {us vs : List Value}, fieldsFlat P fs n = true → us = xs.toList.drop n → vs = ys.toList.drop n → us.length = fs.length → RowCmp us vs b → (Op.eqFields (d + 1) xs ys fs).run P w = .ok b w
 | [], n, b, us, vs, hf, hu, hv, hl, hr => by
  have : us = [] := by simpa using hl
  subst this
  cases hr
  rfl
 | f :: fs, n, b, us, vs, hf, hu, hv, hl, hr => by
  obtain ⟨h1, h2, h3, h4⟩ := fieldsFlat_cons hf
  obtain ⟨k, hk⟩ := plainInt_und h2
  have get : ∀ {zs : Array Value} {z : Value} {rest : List Value}, z :: rest = zs.toList.drop n → zs[n]? = some z ∧ rest = zs.toList.drop (n + 1) := by
   intro zs z rest e
   have e0 := congrArg (·[0]?) e
   simp only [List.getElem?_cons_zero, List.getElem?_drop, Nat.add_zero] at e0
   have e1 := congrArg (List.drop 1) e
   simp only [List.drop_succ_cons, List.drop_zero, List.drop_drop] at e1
   exact ⟨by simpa using e0.symm, e1⟩
  cases hr with
  | nil => simp at hl
  | ne hne =>
   obtain ⟨gx, _⟩ := get hu
   obtain ⟨gy, _⟩ := get hv
   simp only [Op.eqFields, h1, ne_eq, not_false_eq_true, if_true, Sem.run_bind, h3, part_int h2 gx, part_int h2 gy, Result.andThen_ok, run_equalIn_int _ _ _ _ _ _ _ hk]
   simp [hne]
  | eq h =>
   obtain ⟨gx, ex⟩ := get hu
   obtain ⟨gy, ey⟩ := get hv
   simp only [Op.eqFields, h1, ne_eq, not_false_eq_true, if_true, Sem.run_bind, h3, part_int h2 gx, part_int h2 gy, Result.andThen_ok, run_equalIn_int _ _ _ _ _ _ _ hk]
   simpa using eqFields_row fs (n + 1) h4 ex ey (by simpa using hl) h
theorem eqItems_row {d : Nat} {e : TypeId} (he : plainInt P e = true) {xs ys : Array Value} {w : World} : ∀ (m n : Nat) {b : Bool} {us vs : List Value}, us = xs.toList.drop n → vs = ys.toList.drop n → us.length = m → RowCmp us vs b → (Op.eqItems (d + 1) e 1 xs ys (List.range' n m)).run P w = .ok b w
 | 0, n, b, us, vs, hu, hv, hl, hr => by
  have : us = [] := by simpa using hl
  subst this
  cases hr
  rfl
 | m + 1, n, b, us, vs, hu, hv, hl, hr => by
  obtain ⟨k, hk⟩ := plainInt_und he
  have get : ∀ {zs : Array Value} {z : Value} {rest : List Value}, z :: rest = zs.toList.drop n → zs[n]? = some z ∧ rest = zs.toList.drop (n + 1) := by
   intro zs z rest e
   have e0 := congrArg (·[0]?) e
   simp only [List.getElem?_cons_zero, List.getElem?_drop, Nat.add_zero] at e0
   have e1 := congrArg (List.drop 1) e
   simp only [List.drop_succ_cons, List.drop_zero, List.drop_drop] at e1
   exact ⟨by simpa using e0.symm, e1⟩
  rw [List.range'_succ]
  cases hr with
  | nil => simp at hl
  | ne hne =>
   obtain ⟨gx, _⟩ := get hu
   obtain ⟨gy, _⟩ := get hv
   simp only [Op.eqItems, Sem.run_bind, Nat.mul_one, part_int he gx, part_int he gy, Result.andThen_ok, run_equalIn_int _ _ _ _ _ _ _ hk]
   simp [hne]
  | eq h =>
   obtain ⟨gx, ex⟩ := get hu
   obtain ⟨gy, ey⟩ := get hv
   simp only [Op.eqItems, Sem.run_bind, Nat.mul_one, part_int he gx, part_int he gy, Result.andThen_ok, run_equalIn_int _ _ _ _ _ _ _ hk]
   simpa using eqItems_row he m (n + 1) ex ey (by simpa using hl) h
theorem oneCellT_info {T : TypeId} (h : oneCellT P T = true) : ∃ i, P.info? T = some i ∧ P.cellsOf T = 1 := by
 unfold oneCellT at h
 split at h
 ·rename_i i hi
  rw [natBeq, decide_eq_true_eq] at h
  exact ⟨i, hi, by simp [Program.cellsOf, hi, h]⟩
 ·cases h
theorem flatT_cases {T : TypeId} {n : Nat} (h : flatT P T = some n) : (∃ fs, P.underlying T = some (.struct fs) ∧ fieldsFlat P fs.toList 0 = true ∧ P.stoodInHeld T = false ∧ n = fs.size) ∨ (∃ e, P.underlying T = some (.array n e) ∧ plainInt P e = true ∧ oneCellT P e = true) := by
 unfold flatT at h
 split at h
 ·rename_i fs hu
  cases hb : (fieldsFlat P fs.toList (nat_lit 0) && notF (P.stoodInHeld T)) with
  | false => rw [hb] at h; cases h
  | true =>
   rw [hb] at h
   simp only [Bool.and_eq_true, notF_eq, Bool.not_eq_true'] at hb
   exact .inl ⟨fs, hu, hb.1, hb.2, (Option.some.inj h).symm⟩
 ·rename_i m e hu
  cases hb : (plainInt P e && oneCellT P e) with
  | false => rw [hb] at h; cases h
  | true =>
   rw [hb] at h
   simp only [Bool.and_eq_true] at hb
   cases Option.some.inj h
   exact .inr ⟨e, hu, hb.1, hb.2⟩
 ·cases h
theorem equal_flat {T : TypeId} {n : Nat} (hT : flatT P T = some n) {xs ys : List Value} {b : Bool} (hx : xs.length = n) (hr : RowCmp xs ys b) {d : Nat} {w : World} : (Op.equalIn (d + 2) T (.agg xs.toArray) (.agg ys.toArray)).run P w = .ok b w := by
 rcases flatT_cases hT with ⟨fs, hu, h1, h2, rfl⟩ | ⟨e, hu, h1, h2⟩
 ·have hfs : P.fieldsOf T = fs := by simp [Program.fieldsOf, hu]
  rw [run_equalIn_struct w (d + 1) T _ _ (by rw [hfs]; exact hu) h2, hfs]
  exact eqFields_row fs.toList 0 h1 rfl rfl (by simpa using hx) hr
 ·obtain ⟨i, hi, hc⟩ := oneCellT_info h2
  rw [run_equalIn_array w (d + 1) _ _ hu hi, hc, List.range_eq_range']
  exact eqItems_row h1 n 0 rfl rfl hx hr
theorem checkKey_int {w : World} {e : Bool} {n : Nat} {T : TypeId} {v : Value} (hu : plainInt P T = true) : (Instr.checkKey e (n + 1) T v).run P w = .ok () w := by
 obtain ⟨k, hk⟩ := plainInt_und hu
 rw [Instr.checkKey, Sem.run_bind, run_underlying hk]
 rfl
theorem checkKey_flat {T : TypeId} {n : Nat} (hT : flatT P T = some n) {xs : List Value} (hx : xs.length = n) {e : Bool} {d : Nat} {w : World} : (Instr.checkKey e (d + 2) T (.agg xs.toArray)).run P w = .ok () w := by
 have ck : ∀ {T : TypeId} {v : Value}, plainInt P T = true → (Instr.checkKey e (d + 1) T v).run P w = .ok () w := fun h => checkKey_int h
 rw [show d + 2 = (d + 1) + 1 from rfl]
 generalize d + 1 = q at ck ⊢
 rcases flatT_cases hT with ⟨fs, hu, h1, h2, rfl⟩ | ⟨el, hu, h1, h2⟩
 ·rw [Instr.checkKey]
  simp only [Sem.run_bind, run_underlying hu, Result.andThen_ok]
  rw [← Array.forIn_toList]
  have hx : xs.length = 0 + fs.toList.length := by simpa using hx
  revert h1 hx
  generalize fs.toList = l
  generalize 0 = m
  clear hu
  intro h1 hx
  induction l generalizing m with
  | nil => rfl
  | cons f l ih =>
   obtain ⟨q1, q2, q3, q4⟩ := fieldsFlat_cons h1
   have hm : m < xs.length := by rw [hx]; simp
   have hg : xs.toArray[f.offset]? = some xs[m] := by rw [q3]; simp [hm]
   simp only [List.forIn_cons, Sem.run_bind, q1, ne_eq, not_false_eq_true, if_true, part_int q2 hg, Result.andThen_ok, ck q2, Sem.run_pure]
   exact ih (m + 1) q4 (by rw [hx]; simp; omega)
 ·obtain ⟨i, hi, hc⟩ := oneCellT_info h2
  rw [Instr.checkKey]
  simp only [Sem.run_bind, run_underlying hu, Result.andThen_ok]
  simp only [Std.Legacy.Range.forIn_eq_forIn_range', Std.Legacy.Range.size, Nat.sub_zero, Nat.add_one_sub_one, Nat.div_one]
  have hy : xs.length = 0 + n := by simpa using hx
  clear hx hu hT
  revert hy
  generalize 0 = m
  intro hx
  induction n generalizing m with
  | zero => rfl
  | succ n ih =>
   have hm : m < xs.length := by rw [hx]; omega
   have hg : xs.toArray[m * 1]? = some xs[m] := by simp [hm]
   simp only [List.range'_succ, List.forIn_cons, Sem.run_bind, run_sizeOf w hi, hc, Result.andThen_ok, part_int h1 hg, ck h1, Sem.run_pure]
   exact ih (m + 1) (by rw [hx]; omega)
theorem litB_inv {c : SB} {κ : Bool → R} (h : litB c κ ∈ D) : ∃ b, c = .lit b ∧ κ b ∈ D := by
 unfold litB at h
 split at h
 ·exact ⟨_, rfl, h⟩
 ·cases h
theorem eqLits_inv : ∀ {l m : List AV} {κ : Bool → R}, eqLits l m κ ∈ D → ∃ b, κ b ∈ D ∧ ∀ {φ ρ xs ys}, concL φ ρ l = some xs → concL φ ρ m = some ys → RowCmp xs ys b
 | [], m, κ, hD => by
  cases m with
  | nil => exact ⟨true, hD, fun {φ ρ xs ys} h1 h2 => by
    simp only [concL, Option.some.injEq] at h1 h2
    subst h1; subst h2
    exact .nil⟩
  | cons y m => cases hD
 | x :: l, m, κ, hD => by
  cases m with
  | nil => cases hD
  | cons y m =>
   have hD : asInt x (fun k a => asInt y fun k' b => Bool.rec (motive := fun _ => R) (.fail 202) (cmpK .eql a b fun c => litB c fun b => Bool.rec (motive := fun _ => R) (κ false) (eqLits l m κ) b) (kindEq k k')) ∈ D := hD
   obtain ⟨k, a, rfl, h1⟩ := asInt_inv hD
   obtain ⟨k', b, rfl, h2⟩ := asInt_inv h1
   obtain ⟨hk, h3⟩ := brec_inv h2
   have hk := kindEq_of hk
   subst hk
   obtain ⟨c, hc, hev⟩ := cmpK_spec .eql a b (fun c => litB c fun b => Bool.rec (motive := fun _ => R) (κ false) (eqLits l m κ) b)
   rw [hc] at h3
   obtain ⟨d, rfl, h4⟩ := litB_inv h3
   rcases brec_cases h4 with ⟨rfl, h5⟩ | ⟨rfl, h5⟩
   ·obtain ⟨r, h6, h7⟩ := eqLits_inv h5
    refine ⟨r, h6, fun {φ ρ xs ys} hx hy => ?_⟩
    obtain ⟨u, us, e1, e2, rfl⟩ := concL_cons.1 hx
    obtain ⟨v, vs, e3, e4, rfl⟩ := concL_cons.1 hy
    simp only [conc, Option.some.injEq] at e1 e3
    subst e1; subst e3
    have := hev ρ
    have : a.ev ρ = b.ev ρ := by simpa [cmpZ, SB.ev] using this
    rw [this]
    exact .eq (h7 e2 e4)
   ·refine ⟨false, h5, fun {φ ρ xs ys} hx hy => ?_⟩
    obtain ⟨u, us, e1, e2, rfl⟩ := concL_cons.1 hx
    obtain ⟨v, vs, e3, e4, rfl⟩ := concL_cons.1 hy
    simp only [conc, Option.some.injEq] at e1 e3
    subst e1; subst e3
    have := hev ρ
    exact .ne (by simpa [cmpZ, SB.ev] using this)
theorem aggV_inv {v : AV} {n : Nat} {κ : List AV → R} (h : aggV v n κ ∈ D) : ∃ l, v = .agg l ∧ κ l ∈ D := by
 unfold aggV at h
 split at h
 ·exact ⟨_, rfl, h⟩
 ·cases h
theorem conc_agg' {φ : List Pl} {ρ : Nat → Int} {l : List AV} {a : Value} (h : conc φ ρ (.agg l) = some a) : ∃ xs, concL φ ρ l = some xs ∧ a = .agg xs.toArray := by
 simp only [conc, Option.map_eq_some_iff] at h
 obtain ⟨xs, h1, h2⟩ := h
 exact ⟨xs, h1, h2.symm⟩
theorem eqFlat_inv {T : TypeId} {x y : AV} {κ : SB → R} (hD : eqFlat P T x y κ ∈ D) : ∃ b, κ (.lit b) ∈ D ∧ P.eqGuardType P.depth T = false ∧ ∀ {φ ρ a c}, conc φ ρ x = some a → conc φ ρ y = some c → (∃ xs ys, a = .agg xs ∧ c = .agg ys) ∧ ∀ {w}, (Op.equal T a c).run P w = .ok b w := by
 obtain ⟨n, hn, h1⟩ := optK_inv hD
 obtain ⟨hg, h2⟩ := brec_inv h1
 obtain ⟨l, rfl, h3⟩ := aggV_inv h2
 obtain ⟨m, rfl, h4⟩ := aggV_inv h3
 obtain ⟨hl, h5⟩ := brec_inv h4
 obtain ⟨b, h6, h7⟩ := eqLits_inv h5
 rw [notF_eq, Bool.not_eq_true'] at hg
 rw [natBeq, decide_eq_true_eq, lenC_eq] at hl
 refine ⟨b, h6, hg, fun {φ ρ a c} hx hy => ?_⟩
 obtain ⟨xs, hx', rfl⟩ := conc_agg' hx
 obtain ⟨ys, hy', rfl⟩ := conc_agg' hy
 exact ⟨⟨_, _, rfl, rfl⟩, fun {w} => equal_flat hn ((concL_length hx').trans hl) (h7 hx' hy') (d := 9998)⟩
end
end Go.Proofs.YtooebogidjejoaaGreat
namespace Go.Proofs.YtooebogidjejoaaGreat
open Go
section
variable {P : Program} {D : Dn} {h : Tr AObj} {w : World} {φ : List Pl} {ρ : Nat → Int}
theorem binOp_arith {op : BinOp} {T : TypeId} {k : IntKind} {a b : Int} (hop : op = .add ∨ op = .sub ∨ op = .mul ∨ op = .and ∨ op = .or ∨ op = .xor ∨ op = .andNot) :
  (binOp op T (.int k a) (.int k b)).run P w = .ok (.int k (binZ op k a b)) w := by
 rcases hop with rfl | rfl | rfl | rfl | rfl | rfl | rfl <;> simp [binOp, Op.intArith, Op.intBits, binZ]
theorem binOp_div {op : BinOp} {T : TypeId} {k : IntKind} {a b : Int} (hop : op = .quo ∨ op = .rem) (hb : b ≠ 0) :
  (binOp op T (.int k a) (.int k b)).run P w = .ok (.int k (binZ op k a b)) w := by
 rcases hop with rfl | rfl <;> simp [binOp, Op.intDiv, binZ, hb]
theorem binOp_shift {op : BinOp} {T : TypeId} {k k' : IntKind} {a b : Int} (hop : op = .shl ∨ op = .shr) (hb : 0 ≤ b) :
  (binOp op T (.int k a) (.int k' b)).run P w = .ok (.int k (binZ op k a b)) w := by
 rcases hop with rfl | rfl <;> simp [binOp, Op.shift, binZ, Int.not_lt.2 hb]
theorem binOp_cmp {op : BinOp} {T : TypeId} {k : IntKind} {a b : Int} (hop : op = .eql ∨ op = .neq ∨ op = .lss ∨ op = .leq ∨ op = .gtr ∨ op = .geq) :
  (binOp op T (.int k a) (.int k b)).run P w = .ok (.bool (cmpZ op a b)) w := by
 rcases hop with rfl | rfl | rfl | rfl | rfl | rfl <;> simp [binOp, Op.intCmp, cmpZ]
def plainV : Value → Bool
 | .nilIface | .agg _ => false
 | _ => true
theorem eqGuard_plain {op : BinOp} {t : TypeId} {x y : Operand} {a b : Value} (h : plainV a = true) : (eqGuard op t x y a b).run P w = .ok () w := by
 unfold eqGuard
 cases op <;> (first | rfl | (cases a <;> first | (cases h; done) | (cases b <;> rfl)))
theorem eqGuard_not {op : BinOp} {t : TypeId} {x y : Operand} {a b : Value} (h : op ≠ .eql ∧ op ≠ .neq) : (eqGuard op t x y a b).run P w = .ok () w := by
 unfold eqGuard
 cases op <;> first | rfl | exact absurd rfl h.1 | exact absurd rfl h.2
theorem arith_sound {op : BinOp} {T : TypeId} {x y : AV} {κ : AV → R} (hop : op = .add ∨ op = .sub ∨ op = .mul ∨ op = .and ∨ op = .or ∨ op = .xor ∨ op = .andNot) (hD : arith op x y κ ∈ D) :
  ∃ u, κ u ∈ D ∧ ∀ {φ ρ w a b}, conc φ ρ x = some a → conc φ ρ y = some b → plainV a = true ∧ RunV P φ ρ w (binOp op T a b) u := by
 obtain ⟨k, e, rfl, h1⟩ := asInt_inv hD
 obtain ⟨k', e', rfl, h2⟩ := asInt_inv h1
 obtain ⟨hk, h3⟩ := brec_inv h2
 have hk := kindEq_of hk
 subst hk
 obtain ⟨r, hr, hev⟩ := binK_spec op k e e' (intK κ k)
 rw [hr] at h3
 refine ⟨_, h3, fun {φ ρ w a b} ha hb => ?_⟩
 simp only [conc, Option.some.injEq] at ha hb
 subst ha; subst hb
 exact ⟨rfl, _, rfl, by rw [hev]; exact binOp_arith hop⟩
theorem div_sound {op : BinOp} {T : TypeId} {x y : AV} {κ : AV → R} (hop : op = .quo ∨ op = .rem) (hD : divA op x y κ ∈ D) :
  ∃ u, κ u ∈ D ∧ ∀ {φ ρ w a b}, conc φ ρ x = some a → conc φ ρ y = some b → plainV a = true ∧ RunV P φ ρ w (binOp op T a b) u := by
 obtain ⟨k, e, rfl, h1⟩ := asInt_inv hD
 obtain ⟨k', e', rfl, h2⟩ := asInt_inv h1
 obtain ⟨hk, h3⟩ := brec_inv h2
 have hk := kindEq_of hk
 subst hk
 unfold nz at h3
 split at h3
 ·rename_i n
  have h4 : beqF n 0 = false ∧ binK op k e (.lit n) (intK κ k) ∈ D := by
   rcases brec_cases h3 with ⟨_, h⟩ | h
   ·cases h
   ·exact h
  obtain ⟨r, hr, hev⟩ := binK_spec op k e (.lit n) (intK κ k)
  rw [hr] at h4
  refine ⟨_, h4.2, fun {φ ρ w a b} ha hb => ?_⟩
  simp only [conc, Option.some.injEq] at ha hb
  subst ha; subst hb
  refine ⟨rfl, _, rfl, ?_⟩
  rw [hev]
  have h0 := h4.1
  rw [beqF_eq] at h0
  exact binOp_div hop (by simpa [SI.ev] using of_decide_eq_false h0)
 ·cases h3
theorem shift_sound {op : BinOp} {T : TypeId} {x y : AV} {κ : AV → R} (hop : op = .shl ∨ op = .shr) (hD : shiftA op x y κ ∈ D) :
  ∃ u, κ u ∈ D ∧ ∀ {φ ρ w a b}, conc φ ρ x = some a → conc φ ρ y = some b → plainV a = true ∧ RunV P φ ρ w (binOp op T a b) u := by
 obtain ⟨k, e, rfl, h1⟩ := asInt_inv hD
 obtain ⟨k', e', rfl, h2⟩ := asInt_inv h1
 unfold nn at h2
 split at h2
 ·rename_i n
  obtain ⟨r, hr, hev⟩ := binK_spec op k e (.lit (.ofNat n)) (intK κ k)
  rw [hr] at h2
  refine ⟨_, h2, fun {φ ρ w a b} ha hb => ?_⟩
  simp only [conc, Option.some.injEq] at ha hb
  subst ha; subst hb
  refine ⟨rfl, _, rfl, ?_⟩
  rw [hev]
  exact binOp_shift hop (by simp [SI.ev])
 ·cases h2
theorem compare_sound {op : BinOp} {T : TypeId} {x y : AV} {κ : AV → R} (hop : op = .eql ∨ op = .neq ∨ op = .lss ∨ op = .leq ∨ op = .gtr ∨ op = .geq) (hD : compare op x y κ ∈ D) :
  ∃ u, κ u ∈ D ∧ ∀ {φ ρ w a b}, conc φ ρ x = some a → conc φ ρ y = some b → plainV a = true ∧ RunV P φ ρ w (binOp op T a b) u := by
 obtain ⟨k, e, rfl, h1⟩ := asInt_inv hD
 obtain ⟨k', e', rfl, h2⟩ := asInt_inv h1
 obtain ⟨hk, h3⟩ := brec_inv h2
 have hk := kindEq_of hk
 subst hk
 obtain ⟨r, hr, hev⟩ := cmpK_spec op e e' (boolK κ)
 rw [hr] at h3
 refine ⟨_, h3, fun {φ ρ w a b} ha hb => ?_⟩
 simp only [conc, Option.some.injEq] at ha hb
 subst ha; subst hb
 exact ⟨rfl, _, rfl, by rw [hev]; exact binOp_cmp hop⟩
theorem equal_eq (T : TypeId) (x y : Value) : Op.equal T x y = Op.equalIn (9999 + 1) T x y := rfl
def eqTab (els : Sem Bool) (d : TypeDesc) (x y : Value) : Sem Bool := match d, x, y with
  | .bool, .bool a, .bool b => pure (a == b)
  | .pointer _, .pointer none, .pointer b => pure b.isNone
  | .pointer _, .pointer (some _), .pointer none => pure false
  | .pointer elem, .pointer (some a), .pointer (some b) => do
   if (← sizeOf elem) ≠ 0 then sameAddr a b
   else if a == b then pure true
   else pure ((← choose .zeroSizeEq) = 1)
  | .slice _, .slice none _ _, .slice b _ _ => pure b.isNone
  | .slice _, .slice (some _) _ _, .slice none _ _ => pure false
  | .map _ _, .map none, .map b => pure b.isNone
  | .map _ _, .map (some _), .map none => pure false
  | .func _ _ _, .nilFunc, .nilFunc => pure true
  | .func _ _ _, .nilFunc, .func _ _ _ | .func _ _ _, .func _ _ _, .nilFunc => pure false
  | _, _, _ => els
theorem equalIn_eq (n : Nat) (T : TypeId) (x y : Value) {d : TypeDesc} (hu : P.underlying T = some d) : (Op.equalIn (n + 1) T x y).run P w = (eqTab (Op.equalIn (n + 1) T x y) d x y).run P w := by
 unfold eqTab
 split <;> first | rfl | (rw [Op.equalIn, Sem.run_bind, run_underlying hu]; rfl)
theorem nilP_spec {x : AV} {b : Bool} (hn : nilP x = some b) {φ : List Pl} {ρ : Nat → Int} {a : Value} (ha : conc φ ρ x = some a) : (b = true ∧ a = .pointer none) ∨ (b = false ∧ ∃ p, a = .pointer (some p)) := by
 unfold nilP at hn
 split at hn <;> cases hn
 ·simp only [conc, Option.map_eq_some_iff] at ha
  obtain ⟨p, _, rfl⟩ := ha
  exact .inr ⟨rfl, _, rfl⟩
 ·simp only [conc, Option.some.injEq] at ha
  exact .inl ⟨rfl, ha.symm⟩
theorem ssl_conc {φ : List Pl} {ρ : Nat → Int} {id : Nat} {o0 off len : SI} {cap : Option SI} {a : Value} (ha : conc φ ρ (.ssl id o0 off len cap) = some a) : ∃ p n c, a = .slice (some p) n c := by
 simp only [conc, Option.map_eq_some_iff] at ha
 obtain ⟨p, _, rfl⟩ := ha
 cases cap with
 | some c => exact ⟨_, _, _, rfl⟩
 | none =>
  dsimp only
  split
  ·exact ⟨_, _, _, rfl⟩
  ·exact ⟨_, _, _, rfl⟩
theorem fsl_conc {φ : List Pl} {ρ : Nat → Int} {j : Nat} {o0 off len : SI} {a : Value} (ha : conc φ ρ (.fsl j o0 off len) = some a) : ∃ p n c, a = .slice (some p) n c := by
 simp only [conc] at ha
 split at ha
 ·cases ha; exact ⟨_, _, _, rfl⟩
 ·cases ha
theorem nilS_spec {x : AV} {b : Bool} (hn : nilS x = some b) {φ : List Pl} {ρ : Nat → Int} {a : Value} (ha : conc φ ρ x = some a) : (b = true ∧ ∃ n c, a = .slice none n c) ∨ (b = false ∧ ∃ p n c, a = .slice (some p) n c) := by
 unfold nilS at hn
 split at hn <;> cases hn
 ·simp only [conc, Option.map_eq_some_iff] at ha
  obtain ⟨p, _, rfl⟩ := ha
  exact .inr ⟨rfl, _, _, _, rfl⟩
 ·simp only [conc, Option.map_eq_some_iff] at ha
  obtain ⟨p, _, rfl⟩ := ha
  split
  ·exact .inr ⟨rfl, _, _, _, rfl⟩
  ·exact .inr ⟨rfl, _, _, _, rfl⟩
 ·simp only [conc, Option.map_eq_some_iff] at ha
  obtain ⟨p, _, rfl⟩ := ha
  exact .inr ⟨rfl, _, _, _, rfl⟩
 ·exact .inr ⟨rfl, ssl_conc ha⟩
 ·exact .inr ⟨rfl, fsl_conc ha⟩
 ·simp only [conc, Option.some.injEq] at ha
  exact .inl ⟨rfl, _, _, ha.symm⟩
theorem nilM_spec {x : AV} {b : Bool} (hn : nilM x = some b) {φ : List Pl} {ρ : Nat → Int} {a : Value} (ha : conc φ ρ x = some a) : (b = true ∧ a = .map none) ∨ (b = false ∧ ∃ p, a = .map (some p)) := by
 unfold nilM at hn
 split at hn <;> cases hn
 ·simp only [conc, Option.map_eq_some_iff] at ha
  obtain ⟨p, _, rfl⟩ := ha
  exact .inr ⟨rfl, _, rfl⟩
 ·simp only [conc, Option.some.injEq] at ha
  exact .inl ⟨rfl, ha.symm⟩
theorem nilF_spec {x : AV} {b : Bool} (hn : nilF x = some b) {φ : List Pl} {ρ : Nat → Int} {a : Value} (ha : conc φ ρ x = some a) : (b = true ∧ a = .nilFunc) ∨ (b = false ∧ ∃ f u v, a = .func f u v) := by
 unfold nilF at hn
 split at hn <;> cases hn
 ·simp only [conc, Option.bind_eq_some_iff, Option.map_eq_some_iff] at ha
  obtain ⟨u, _, v, _, rfl⟩ := ha
  exact .inr ⟨rfl, _, _, _, rfl⟩
 ·simp only [conc, Option.some.injEq] at ha
  exact .inl ⟨rfl, ha.symm⟩
theorem nilSl_inv {x y : AV} {κ : SB → R} (hD : nilSl x y κ ∈ D) : nil2 (nilS x) (nilS y) (.fail 25) κ ∈ D ∨ ∃ p k c, x = .osl p k c ∧ nilS y = some true ∧ κ (.cmp .eql (.var (p + 2)) zeroS) ∈ D := by
 unfold nilSl at hD
 cases hx : oslP x with
 | none => rw [hx] at hD; exact .inl hD
 | some p =>
  rw [hx] at hD
  obtain ⟨b, hb, h1⟩ := optK_inv hD
  obtain ⟨rfl, h2⟩ := brec_inv h1
  rw [forceN_eq] at h2
  unfold oslP at hx
  split at hx
  ·cases hx; exact .inr ⟨_, _, _, rfl, hb, h2⟩
  ·cases hx
theorem nil2_inv {nx ny : Option Bool} {both : R} {κ : SB → R} (hD : nil2 nx ny both κ ∈ D) : ∃ bx by_, nx = some bx ∧ ny = some by_ ∧ ((by_ = true ∧ κ (.lit bx) ∈ D) ∨ (by_ = false ∧ bx = true ∧ κ (.lit false) ∈ D) ∨ (by_ = false ∧ bx = false ∧ both ∈ D)) := by
 obtain ⟨bx, hx, h1⟩ := optK_inv hD
 obtain ⟨by_, hy, h2⟩ := optK_inv h1
 refine ⟨bx, by_, hx, hy, ?_⟩
 rcases brec_cases h2 with ⟨h, h3⟩ | ⟨h, h3⟩
 ·exact .inl ⟨h, h3⟩
 ·rcases brec_cases h3 with ⟨h', h4⟩ | ⟨h', h4⟩
  ·exact .inr (.inl ⟨h, h', h4⟩)
  ·exact .inr (.inr ⟨h, h', h4⟩)
def GuardOk (P : Program) (T : TypeId) (a b : Value) : Prop := plainV a = true ∨ (P.eqGuardType P.depth T = false ∧ ∃ xs ys, a = .agg xs ∧ b = .agg ys)
theorem GuardOk.run {op : BinOp} {T : TypeId} {x y : Operand} {a b : Value} (h : GuardOk P T a b) : (eqGuard op T x y a b).run P w = .ok () w := by
 rcases h with h | ⟨h, xs, ys, rfl, rfl⟩
 ·exact eqGuard_plain h
 ·exact run_eqGuard_agg w op T x y xs ys h
def RunB (P : Program) (ρ : Nat → Int) (w : World) (T : TypeId) (a b : Value) (u : SB) : Prop := GuardOk P T a b ∧ (∀ k n, a ≠ .int k n) ∧ (∀ k n, b ≠ .int k n) ∧ (∀ k n, a ≠ .float k n) ∧ (∀ k n m, a ≠ .complex k n m) ∧ ((∃ s t, a = .string s ∧ b = .string t ∧ u = .lit (s.toList == t.toList)) ∨ ((∀ s, a ≠ .string s) ∧ (Op.equal T a b).run P w = .ok (u.ev ρ) w))
theorem frozen_no {φ : List Pl} {ρ : Nat → Int} {w : World} {p : Pl} {arr : Array Value} {n : Nat} {c : Tr AV} {d : Option AV} {T : TypeId} {row : Bool} (hc : CelOk P φ ρ w p arr (0, 0) n c d T row) (o : Nat) : w.frozen? ⟨p.blk, o, none⟩ = false := by
 unfold World.frozen?
 simp [hc.blk]
theorem run_frozen (a : Addr) : (frozen a).run P w = .ok (w.frozen? a) w := rfl
theorem run_shape (r : Nat) : (shape r).run P w = .ok (w.shape? r) w := rfl
theorem sameAddr_plain {b b' o o' : Nat} {arr arr' : Array Value} {T T' : TypeId} (h1 : w.heap[b]? = some (.cells arr T (0, 0))) (h2 : w.heap[b']? = some (.cells arr' T' (0, 0))) :
  (sameAddr ⟨b, o, none⟩ ⟨b', o', none⟩).run P w = .ok (decide (b = b') && decide (o = o')) w := by
 have f1 : ∀ o, w.frozen? ⟨b, o, none⟩ = false := fun o => by unfold World.frozen?; simp [h1]
 have f2 : ∀ o, w.frozen? ⟨b', o, none⟩ = false := fun o => by unfold World.frozen?; simp [h2]
 have s1 : w.shape? b = some (T, arr.size) := by unfold World.shape?; simp [h1]
 have s2 : w.shape? b' = some (T', arr'.size) := by unfold World.shape?; simp [h2]
 unfold sameAddr
 by_cases hb : b = b'
 ·subst hb
  simp
  by_cases ho : o = o' <;> simp [ho]
 ·simp [hb, Sem.run_bind, run_frozen, f1, f2, noView, viewAt, run_shape, s1, s2, mayBeOne, stringish]
theorem eqB_spec {a b : SB} {κ : SB → R} (hD : eqB a b κ ∈ D) : ∃ u, κ u ∈ D ∧ ∀ ρ, u.ev ρ = (a.ev ρ == b.ev ρ) := by
 unfold eqB at hD
 split at hD
 ·rename_i a
  cases a with
  | true => exact ⟨b, hD, fun ρ => by simp [SB.ev]⟩
  | false =>
   obtain ⟨e, he, hev⟩ := notK_spec b κ
   have hD : notK b κ ∈ D := hD
   rw [he] at hD
   exact ⟨e, hD, fun ρ => by rw [hev]; simp [SB.ev]⟩
 ·split at hD
  ·rename_i b
   cases b with
   | true => exact ⟨a, hD, fun ρ => by simp [SB.ev]⟩
   | false =>
    obtain ⟨e, he, hev⟩ := notK_spec a κ
    have hD : notK a κ ∈ D := hD
    rw [he] at hD
    exact ⟨e, hD, fun ρ => by rw [hev]; simp [SB.ev]⟩
  ·cases hD
theorem eq_sound {T : TypeId} {x y : AV} {κ : SB → R} (hD : eqD P T h x y κ ∈ D) : ∃ u, κ u ∈ D ∧ ∀ {φ ρ w a b}, Hp P φ ρ h w → conc φ ρ x = some a → conc φ ρ y = some b → RunB P ρ w T a b u := by
 obtain ⟨d, hu, h1⟩ := optK_inv hD
 unfold eqA at h1
 split at h1
 ·obtain ⟨c, h2, hg, hc⟩ := eqFlat_inv h1
  refine ⟨_, h2, fun {φ ρ w a b} hp ha hb => ?_⟩
  obtain ⟨⟨xs, ys, rfl, rfl⟩, hr⟩ := hc ha hb
  exact ⟨.inr ⟨hg, _, _, rfl, rfl⟩, by simp, by simp, by simp, by simp, .inr ⟨by simp, hr⟩⟩
 ·obtain ⟨c, h2, hg, hc⟩ := eqFlat_inv h1
  refine ⟨_, h2, fun {φ ρ w a b} hp ha hb => ?_⟩
  obtain ⟨⟨xs, ys, rfl, rfl⟩, hr⟩ := hc ha hb
  exact ⟨.inr ⟨hg, _, _, rfl, rfl⟩, by simp, by simp, by simp, by simp, .inr ⟨by simp, hr⟩⟩
 ·split at h1
  ·split at h1
   ·obtain ⟨u, h2, hev⟩ := eqB_spec h1
    refine ⟨u, h2, fun {φ ρ w a b} hp ha hb => ?_⟩
    simp only [conc, Option.some.injEq] at ha hb
    subst ha; subst hb
    refine ⟨.inl rfl, by simp, by simp, by simp, by simp, .inr ⟨by simp, ?_⟩⟩
    rw [equal_eq, equalIn_eq 9999 T _ _ hu, hev]
    rfl
   ·cases h1
  ·cases h1
 ·rename_i e
  rcases brec_cases h1 with ⟨_, h⟩ | ⟨hsz, h2⟩
  ·cases h
  have hsz' : ∃ n, sizeA P e = some n ∧ n ≠ 0 := by
   cases hs : sizeA P e with
   | none => rw [hs] at hsz; cases hsz
   | some n =>
    rw [hs] at hsz
    have hsz : Nat.beq n 0 = false := hsz
    rw [natBeq] at hsz
    exact ⟨n, rfl, of_decide_eq_false hsz⟩
  obtain ⟨n, hn, hn0⟩ := hsz'
  obtain ⟨bx, by_, hx, hy, hc⟩ := nil2_inv h2
  rcases hc with ⟨rfl, h3⟩ | ⟨rfl, rfl, h3⟩ | ⟨rfl, rfl, h3⟩
  ·refine ⟨_, h3, fun {φ ρ w a b} hp ha hb => ?_⟩
   rcases nilP_spec hx ha with ⟨rfl, rfl⟩ | ⟨rfl, p, rfl⟩ <;> rcases nilP_spec hy hb with ⟨_, rfl⟩ | ⟨h, _⟩ <;> first | (cases h; done) |
    exact ⟨.inl rfl, by simp, by simp, by simp, by simp, .inr ⟨by simp, by rw [equal_eq, equalIn_eq 9999 T _ _ hu]; rfl⟩⟩
  ·refine ⟨_, h3, fun {φ ρ w a b} hp ha hb => ?_⟩
   rcases nilP_spec hx ha with ⟨_, rfl⟩ | ⟨h, _⟩ <;> first | (cases h; done) | skip
   rcases nilP_spec hy hb with ⟨h, _⟩ | ⟨_, p, rfl⟩ <;> first | (cases h; done) | skip
   exact ⟨.inl rfl, by simp, by simp, by simp, by simp, .inr ⟨by simp, by rw [equal_eq, equalIn_eq 9999 T _ _ hu]; rfl⟩⟩
  ·unfold ptrEq at h3
   split at h3
   ·rename_i i o
    split at h3
    ·rename_i j q
     obtain ⟨n1, c1, d1, T1, r1, g1, h4⟩ := objK_inv h3
     obtain ⟨n2, c2, d2, T2, r2, g2, h5⟩ := objK_inv h4
     rcases brec_cases h5 with ⟨_, h⟩ | ⟨hr, h6⟩
     ·cases h
     simp only [Bool.or_eq_false_iff] at hr
     refine ⟨_, h6, fun {φ ρ w a b} hp ha hb => ?_⟩
     obtain ⟨p1, arr1, fz1, hp1, hc1⟩ := hp.obj _ _ g1
     obtain ⟨p2, arr2, fz2, hp2, hc2⟩ := hp.obj _ _ g2
     obtain ⟨s1, _, rfl, _⟩ := hc1.fix hr.1
     obtain ⟨s2, _, rfl, _⟩ := hc2.fix hr.2
     simp only [conc, hp1, hp2, Option.map_some, Option.some.injEq, s1, s2, Nat.zero_add] at ha hb
     subst ha; subst hb
     refine ⟨.inl rfl, by simp, by simp, by simp, by simp, .inr ⟨by simp, ?_⟩⟩
     rw [equal_eq, equalIn_eq 9999 T _ _ hu]
     simp only [eqTab, Sem.run_bind, run_size hn, Result.andThen_ok, ne_eq, hn0, not_false_eq_true, if_true]
     rw [sameAddr_plain hc1.blk hc2.blk]
     have hb : decide (p1.blk = p2.blk) = decide (i = j) := by
      congr 1
      apply propext
      constructor
      ·intro e
       exact hp.sep i j _ _ p1 p2 g1 g2 rfl rfl hp1 hp2 e
      ·rintro rfl
       rw [hp1] at hp2
       cases hp2; rfl
     rw [hb]
     simp [SB.ev, natBeq]
    ·cases h3
   ·cases h3
 ·rcases nilSl_inv h1 with h1 | ⟨p, k, c, rfl, hy, h3⟩
  rotate_left
  ·refine ⟨_, h3, fun {φ ρ w a b} hp ha hb => ?_⟩
   rcases nilS_spec hy hb with ⟨_, n', c', rfl⟩ | ⟨h, _⟩
   rotate_left
   ·cases h
   simp only [conc, Option.some.injEq] at ha
   subst ha
   refine ⟨.inl rfl, by simp, by simp, by simp, by simp, .inr ⟨by simp, ?_⟩⟩
   rw [equal_eq, equalIn_eq 9999 T _ _ hu]
   show _ = Result.ok (ρ (p + 2) == 0) w
   unfold adrL
   by_cases h0 : ρ (p + 2) = 0
   ·rw [if_pos h0, h0]
    rfl
   ·rw [if_neg h0, beq_false_of_ne h0]
    rfl
  obtain ⟨bx, by_, hx, hy, hc⟩ := nil2_inv h1
  rcases hc with ⟨rfl, h3⟩ | ⟨rfl, rfl, h3⟩ | ⟨rfl, rfl, h3⟩
  ·refine ⟨_, h3, fun {φ ρ w a b} hp ha hb => ?_⟩
   rcases nilS_spec hx ha with ⟨rfl, n, c, rfl⟩ | ⟨rfl, p, n, c, rfl⟩ <;> rcases nilS_spec hy hb with ⟨_, n', c', rfl⟩ | ⟨h, _⟩ <;> first | (cases h; done) |
    exact ⟨.inl rfl, by simp, by simp, by simp, by simp, .inr ⟨by simp, by rw [equal_eq, equalIn_eq 9999 T _ _ hu]; rfl⟩⟩
  ·refine ⟨_, h3, fun {φ ρ w a b} hp ha hb => ?_⟩
   rcases nilS_spec hx ha with ⟨_, n, c, rfl⟩ | ⟨h, _⟩ <;> first | (cases h; done) | skip
   rcases nilS_spec hy hb with ⟨h, _⟩ | ⟨_, p, n', c', rfl⟩ <;> first | (cases h; done) | skip
   exact ⟨.inl rfl, by simp, by simp, by simp, by simp, .inr ⟨by simp, by rw [equal_eq, equalIn_eq 9999 T _ _ hu]; rfl⟩⟩
  ·cases h3
 ·obtain ⟨bx, by_, hx, hy, hc⟩ := nil2_inv h1
  rcases hc with ⟨rfl, h3⟩ | ⟨rfl, rfl, h3⟩ | ⟨rfl, rfl, h3⟩
  ·refine ⟨_, h3, fun {φ ρ w a b} hp ha hb => ?_⟩
   rcases nilM_spec hx ha with ⟨rfl, rfl⟩ | ⟨rfl, p, rfl⟩ <;> rcases nilM_spec hy hb with ⟨_, rfl⟩ | ⟨h, _⟩ <;> first | (cases h; done) |
    exact ⟨.inl rfl, by simp, by simp, by simp, by simp, .inr ⟨by simp, by rw [equal_eq, equalIn_eq 9999 T _ _ hu]; rfl⟩⟩
  ·refine ⟨_, h3, fun {φ ρ w a b} hp ha hb => ?_⟩
   rcases nilM_spec hx ha with ⟨_, rfl⟩ | ⟨h, _⟩ <;> first | (cases h; done) | skip
   rcases nilM_spec hy hb with ⟨h, _⟩ | ⟨_, p, rfl⟩ <;> first | (cases h; done) | skip
   exact ⟨.inl rfl, by simp, by simp, by simp, by simp, .inr ⟨by simp, by rw [equal_eq, equalIn_eq 9999 T _ _ hu]; rfl⟩⟩
  ·cases h3
 ·obtain ⟨bx, by_, hx, hy, hc⟩ := nil2_inv h1
  rcases hc with ⟨rfl, h3⟩ | ⟨rfl, rfl, h3⟩ | ⟨rfl, rfl, h3⟩
  ·refine ⟨_, h3, fun {φ ρ w a b} hp ha hb => ?_⟩
   rcases nilF_spec hx ha with ⟨rfl, rfl⟩ | ⟨rfl, f, u, v, rfl⟩ <;> rcases nilF_spec hy hb with ⟨_, rfl⟩ | ⟨h, _⟩ <;> first | (cases h; done) |
    exact ⟨.inl rfl, by simp, by simp, by simp, by simp, .inr ⟨by simp, by rw [equal_eq, equalIn_eq 9999 T _ _ hu]; rfl⟩⟩
  ·refine ⟨_, h3, fun {φ ρ w a b} hp ha hb => ?_⟩
   rcases nilF_spec hx ha with ⟨_, rfl⟩ | ⟨h, _⟩ <;> first | (cases h; done) | skip
   rcases nilF_spec hy hb with ⟨h, _⟩ | ⟨_, f, u, v, rfl⟩ <;> first | (cases h; done) | skip
   exact ⟨.inl rfl, by simp, by simp, by simp, by simp, .inr ⟨by simp, by rw [equal_eq, equalIn_eq 9999 T _ _ hu]; rfl⟩⟩
  ·cases h3
 ·split at h1
  ·split at h1
   ·unfold strEq at h1
    split at h1
    ·split at h1
     ·refine ⟨_, h1, fun {φ ρ w a b} hp ha hb => ?_⟩
      simp only [conc, Option.some.injEq] at ha hb
      subst ha; subst hb
      exact ⟨.inl rfl, by simp, by simp, by simp, by simp, .inl ⟨_, _, rfl, rfl, by rw [ByteArray.toList_eq, ByteArray.toList_eq]⟩⟩
     ·cases h1
    ·cases h1
   ·cases h1
  ·cases h1
 ·cases h1
end
end Go.Proofs.YtooebogidjejoaaGreat
namespace Go.Proofs.YtooebogidjejoaaGreat
open Go
section
variable {P : Program} {D : Dn} {h : Tr AObj}
theorem binOp_eql {T : TypeId} {a b : Value} (h1 : ∀ k n, a ≠ .int k n) (h2 : ∀ k n, a ≠ .float k n) (h3 : ∀ k n m, a ≠ .complex k n m) (h4 : ∀ s, a ≠ .string s) :
  binOp .eql T a b = (do pure (.bool (← Op.equal T a b))) := by
 cases a <;> first
  | exact absurd rfl (h1 _ _) | exact absurd rfl (h2 _ _) | exact absurd rfl (h3 _ _ _) | exact absurd rfl (h4 _)
  | rfl | (cases b <;> rfl)
theorem binOp_neq {T : TypeId} {a b : Value} (h1 : ∀ k n, a ≠ .int k n) (h2 : ∀ k n, a ≠ .float k n) (h3 : ∀ k n m, a ≠ .complex k n m) (h4 : ∀ s, a ≠ .string s) :
  binOp .neq T a b = (do pure (.bool (!(← Op.equal T a b)))) := by
 cases a <;> first
  | exact absurd rfl (h1 _ _) | exact absurd rfl (h2 _ _) | exact absurd rfl (h3 _ _ _) | exact absurd rfl (h4 _)
  | rfl | (cases b <;> rfl)
theorem bin_sound {op : BinOp} {T : TypeId} {x y : AV} {κ : AV → R} (hD : binA P op T h x y κ ∈ D) :
  ∃ u, κ u ∈ D ∧ ∀ {φ ρ w a b o1 o2}, Hp P φ ρ h w → conc φ ρ x = some a → conc φ ρ y = some b → RunV P φ ρ w (do eqGuard op T o1 o2 a b; binOp op T a b) u := by
 have fin : ∀ {u : AV}, (∀ {φ ρ w a b}, conc φ ρ x = some a → conc φ ρ y = some b → plainV a = true ∧ RunV P φ ρ w (binOp op T a b) u) →
   ∀ {φ ρ w a b o1 o2}, Hp P φ ρ h w → conc φ ρ x = some a → conc φ ρ y = some b → RunV P φ ρ w (do eqGuard op T o1 o2 a b; binOp op T a b) u := by
  intro u hu φ ρ w a b o1 o2 _ ha hb
  obtain ⟨hpl, v, hv, hr⟩ := hu (w := w) ha hb
  refine ⟨v, hv, ?_⟩
  rw [Sem.run_bind, eqGuard_plain hpl]
  exact hr
 cases op
 case add => obtain ⟨u, hk, hu⟩ := arith_sound (T := T) (by simp) hD; exact ⟨u, hk, fin hu⟩
 case sub => obtain ⟨u, hk, hu⟩ := arith_sound (T := T) (by simp) hD; exact ⟨u, hk, fin hu⟩
 case mul => obtain ⟨u, hk, hu⟩ := arith_sound (T := T) (by simp) hD; exact ⟨u, hk, fin hu⟩
 case and => obtain ⟨u, hk, hu⟩ := arith_sound (T := T) (by simp) hD; exact ⟨u, hk, fin hu⟩
 case or => obtain ⟨u, hk, hu⟩ := arith_sound (T := T) (by simp) hD; exact ⟨u, hk, fin hu⟩
 case xor => obtain ⟨u, hk, hu⟩ := arith_sound (T := T) (by simp) hD; exact ⟨u, hk, fin hu⟩
 case andNot => obtain ⟨u, hk, hu⟩ := arith_sound (T := T) (by simp) hD; exact ⟨u, hk, fin hu⟩
 case quo => obtain ⟨u, hk, hu⟩ := div_sound (T := T) (by simp) hD; exact ⟨u, hk, fin hu⟩
 case rem => obtain ⟨u, hk, hu⟩ := div_sound (T := T) (by simp) hD; exact ⟨u, hk, fin hu⟩
 case shl => obtain ⟨u, hk, hu⟩ := shift_sound (T := T) (by simp) hD; exact ⟨u, hk, fin hu⟩
 case shr => obtain ⟨u, hk, hu⟩ := shift_sound (T := T) (by simp) hD; exact ⟨u, hk, fin hu⟩
 case lss => obtain ⟨u, hk, hu⟩ := compare_sound (T := T) (by simp) hD; exact ⟨u, hk, fin hu⟩
 case leq => obtain ⟨u, hk, hu⟩ := compare_sound (T := T) (by simp) hD; exact ⟨u, hk, fin hu⟩
 case gtr => obtain ⟨u, hk, hu⟩ := compare_sound (T := T) (by simp) hD; exact ⟨u, hk, fin hu⟩
 case geq => obtain ⟨u, hk, hu⟩ := compare_sound (T := T) (by simp) hD; exact ⟨u, hk, fin hu⟩
 case eql =>
  have hD : eqlA P T h x y κ ∈ D := hD
  unfold eqlA at hD
  split at hD
  ·obtain ⟨u, hk, hu⟩ := compare_sound (T := T) (by simp) hD
   exact ⟨u, hk, fin hu⟩
  ·obtain ⟨c, hk, hu⟩ := eq_sound hD
   refine ⟨.bool c, hk, fun {φ ρ w a b o1 o2} hp ha hb => ?_⟩
   obtain ⟨q1, q2, q3, q4, q5, q6⟩ := hu hp ha hb
   refine ⟨.bool (c.ev ρ), rfl, ?_⟩
   rw [Sem.run_bind, q1.run, Result.andThen_ok]
   rcases q6 with ⟨s, t, rfl, rfl, rfl⟩ | ⟨hs, hr⟩
   ·simp [binOp, Op.stringOp, SB.ev]
   ·rw [binOp_eql q2 q4 q5 hs, Sem.run_bind, hr]; rfl
 case neq =>
  have hD : neqA P T h x y κ ∈ D := hD
  unfold neqA at hD
  split at hD
  ·obtain ⟨u, hk, hu⟩ := compare_sound (T := T) (by simp) hD
   exact ⟨u, hk, fin hu⟩
  ·obtain ⟨c, hk, hu⟩ := eq_sound hD
   obtain ⟨e, he, hev⟩ := notK_spec c (boolK κ)
   rw [he] at hk
   refine ⟨.bool e, hk, fun {φ ρ w a b o1 o2} hp ha hb => ?_⟩
   obtain ⟨q1, q2, q3, q4, q5, q6⟩ := hu hp ha hb
   refine ⟨.bool (e.ev ρ), rfl, ?_⟩
   rw [Sem.run_bind, q1.run, Result.andThen_ok, hev]
   rcases q6 with ⟨s, t, rfl, rfl, rfl⟩ | ⟨hs, hr⟩
   ·simp [binOp, Op.stringOp, SB.ev]
   ·rw [binOp_neq q2 q4 q5 hs, Sem.run_bind, hr]; rfl
theorem un_sound {op : UnOp} {x : AV} {κ : AV → R} (hD : unA op x κ ∈ D) : ∃ u, κ u ∈ D ∧ ∀ {φ ρ w a}, conc φ ρ x = some a → RunV P φ ρ w (Op.unary op a) u := by
 cases op
 case neg =>
  obtain ⟨k, e, rfl, h1⟩ := asInt_inv (show asInt x (fun k a => binK .sub k (.lit (.ofNat (nat_lit 0))) a (intK κ k)) ∈ D from hD)
  obtain ⟨r, hr, hev⟩ := binK_spec .sub k (.lit (.ofNat (nat_lit 0))) e (intK κ k)
  rw [hr] at h1
  refine ⟨_, h1, fun {φ ρ w a} ha => ?_⟩
  simp only [conc, Option.some.injEq] at ha
  subst ha
  refine ⟨_, rfl, ?_⟩
  rw [hev]
  simp [Op.unary, Op.intArith, binZ, SI.ev]
 case not =>
  obtain ⟨b, rfl, h1⟩ := asBoolA_inv (show asBoolA x (fun b => notK b (boolK κ)) ∈ D from hD)
  obtain ⟨e, he, hev⟩ := notK_spec b (boolK κ)
  rw [he] at h1
  refine ⟨_, h1, fun {φ ρ w a} ha => ?_⟩
  simp only [conc, Option.some.injEq] at ha
  subst ha
  exact ⟨_, rfl, by rw [hev]; rfl⟩
 case xor =>
  obtain ⟨k, e, rfl, h1⟩ := asInt_inv (show asInt x (fun k a => binK .xor k (.lit (onesI k)) a (intK κ k)) ∈ D from hD)
  obtain ⟨r, hr, hev⟩ := binK_spec .xor k (.lit (onesI k)) e (intK κ k)
  rw [hr] at h1
  refine ⟨_, h1, fun {φ ρ w a} ha => ?_⟩
  simp only [conc, Option.some.injEq] at ha
  subst ha
  refine ⟨_, rfl, ?_⟩
  rw [hev]
  have ho : onesI k = (if k.signed then -1 else k.max) := by cases k <;> rfl
  simp only [Op.unary, ← ho, binZ, SI.ev]
  rfl
 all_goals cases hD
theorem conc_sl' {φ : List Pl} {ρ : Nat → Int} {id off len : Nat} {cap : Option Nat} {a : Value} (h : conc φ ρ (.sl id off len cap) = some a) : ∃ p, φ[id]? = some p ∧ a = .slice (some ⟨p.blk, p.sh + off, none⟩) len (cap.getD (p.room off)) := by
 simp only [conc, Option.map_eq_some_iff] at h
 obtain ⟨p, hp, rfl⟩ := h
 exact ⟨p, hp, rfl⟩
theorem eqP_sound {op : BinOp} {T : TypeId} {x y : AV} {pc : PC} {κ : AV → PC → R} (ho : isEqOp op = true) (hD : eqP P op T x y pc κ ∈ D) : ∃ u pc', κ u pc' ∈ D ∧ PcExt pc pc' ∧ ∀ {φ ρ w a b o1 o2}, Holds ρ pc' → conc φ ρ x = some a → conc φ ρ y = some b → RunV P φ ρ w (do eqGuard op T o1 o2 a b; binOp op T a b) u := by
 obtain ⟨n, hn, h1⟩ := optK_inv hD
 obtain ⟨hg, h2⟩ := brec_inv h1
 obtain ⟨l, rfl, h3⟩ := aggV_inv h2
 obtain ⟨m, rfl, h4⟩ := aggV_inv h3
 obtain ⟨hl, h5⟩ := brec_inv h4
 obtain ⟨b, pc', h6, hx, h7⟩ := eqCells_inv h5
 rw [notF_eq, Bool.not_eq_true'] at hg
 rw [natBeq, decide_eq_true_eq, lenC_eq] at hl
 refine ⟨_, pc', h6, hx, fun {φ ρ w a c o1 o2} hρ ha hc => ?_⟩
 obtain ⟨xs, hx', rfl⟩ := conc_agg' ha
 obtain ⟨ys, hy', rfl⟩ := conc_agg' hc
 have hr : (Op.equal T (.agg xs.toArray) (.agg ys.toArray)).run P w = .ok b w := equal_flat hn ((concL_length hx').trans hl) (h7 hρ hx' hy') (d := 9998)
 refine ⟨.bool (eqlB op b), rfl, ?_⟩
 have hG : GuardOk P T (.agg xs.toArray) (.agg ys.toArray) := .inr ⟨hg, _, _, rfl, rfl⟩
 rw [Sem.run_bind, hG.run, Result.andThen_ok]
 cases op <;> first | (cases ho; done) | skip
 ·rw [binOp_eql (by simp) (by simp) (by simp) (by simp), Sem.run_bind, hr]; rfl
 ·rw [binOp_neq (by simp) (by simp) (by simp) (by simp), Sem.run_bind, hr]
  show _ = Result.ok (Value.bool (notF b)) w
  rw [notF_eq]; rfl
theorem stripK_eq {α : Type} {rg : List (Int × Int)} (e : SI) (κ : SI → α) : ∃ u, stripK rg e κ = κ u ∧ ∀ ρ, RgOk ρ rg → u.ev ρ = e.ev ρ := by
 cases e with
 | conv k a =>
  cases a with
  | var i =>
   show ∃ u, (opt1' (nthR rg i) (κ (.conv k (.var i))) fun l h => Bool.rec (motive := fun _ => α) (κ (.conv k (.var i))) (κ (.var i)) (leF (minK k) l && leF h (maxK k))) = κ u ∧ _
   unfold opt1'
   cases hg : nthR rg i with
   | none => exact ⟨_, rfl, fun _ _ => rfl⟩
   | some r =>
    simp only
    cases hb : leF (minK k) r.1 && leF r.2 (maxK k) with
    | true =>
     refine ⟨_, rfl, fun ρ hr => ?_⟩
     simp only [Bool.and_eq_true, leF_eq, decide_eq_true_eq] at hb
     have h1 := hr i r.1 r.2 hg
     have h3 : (SI.var i).ev ρ = ρ i := rfl
     exact (wrap_in (by rw [h3]; exact ⟨by omega, by omega⟩)).symm
    | false => exact ⟨_, rfl, fun _ _ => rfl⟩
  | bin op k' x y =>
   show ∃ u, linK rg k (.bin op k' x y) κ = κ u ∧ _
   unfold linK opt1'
   cases (linB (.bin op k' x y) && notF (kindEq k .u8)) with
   | false => exact ⟨_, rfl, fun _ _ => rfl⟩
   | true =>
    cases hg : rngS rg (.bin op k' x y) with
    | none => exact ⟨_, rfl, fun _ _ => rfl⟩
    | some r =>
     simp only
     cases hb : leF (minK k) r.1 && leF r.2 (maxK k) with
     | true =>
      refine ⟨_, rfl, fun ρ hr => ?_⟩
      simp only [Bool.and_eq_true, leF_eq, decide_eq_true_eq] at hb
      have h1 := rngS_in hr (.bin op k' x y) r.1 r.2 hg
      exact (wrap_in ⟨by omega, by omega⟩).symm
     | false => exact ⟨_, rfl, fun _ _ => rfl⟩
  | lit _ => exact ⟨_, rfl, fun _ _ => rfl⟩
  | conv _ _ => exact ⟨_, rfl, fun _ _ => rfl⟩
  | fold _ => exact ⟨_, rfl, fun _ _ => rfl⟩
  | rs _ _ _ _ => exact ⟨_, rfl, fun _ _ => rfl⟩
 | bin op k a b =>
  show ∃ u, stripB rg op k a b κ = κ u ∧ _
  unfold stripB
  cases h1 : isSub op && SI.beq a b with
  | true =>
   rw [Bool.and_eq_true] at h1
   refine ⟨zeroS, rfl, fun ρ hr => ?_⟩
   have hop : op = .sub := by cases op <;> first | rfl | cases h1.1
   subst hop
   rw [SI.beq_eq _ _ h1.2]
   show (0 : Int) = k.wrap (b.ev ρ - b.ev ρ)
   rw [Int.sub_self]
   cases k <;> decide
  | false =>
   cases h2 : isAdd op && isZ b with
   | false =>
    cases h3 : isAdd op && (isUns k && Nat.ble (bitsF k) (nat_lit 32)) with
    | false => exact ⟨_, rfl, fun _ _ => rfl⟩
    | true =>
     rw [Bool.and_eq_true, Bool.and_eq_true] at h3
     have hop : op = .add := by cases op <;> first | rfl | cases h3.1
     subst hop
     show ∃ u, wrpK rg k a b (κ (.bin .add k a b)) κ = κ u ∧ _
     unfold wrpK
     split
     ·rename_i c
      unfold opt1'
      cases hg : rngS rg a with
      | none => exact ⟨_, rfl, fun _ _ => rfl⟩
      | some r =>
       simp only [forceI_eq]
       cases hb : leF (minK k) (Int.add r.1 (Int.sub c (modF k))) && leF (Int.add r.2 (Int.sub c (modF k))) (maxK k) with
       | false => exact ⟨_, rfl, fun _ _ => rfl⟩
       | true =>
        refine ⟨_, rfl, fun ρ hr => ?_⟩
        simp only [Bool.and_eq_true, leF_eq, decide_eq_true_eq] at hb
        have h1 := rngS_in hr a r.1 r.2 hg
        have hb1 : minK k ≤ r.1 + (c - modF k) := hb.1
        have hb2 : r.2 + (c - modF k) ≤ maxK k := hb.2
        show IntKind.i64.wrap (a.ev ρ + (c - modF k)) = k.wrap (a.ev ρ + c)
        have hk : k.wrap (a.ev ρ + c) = k.wrap (a.ev ρ + (c - modF k)) := by
         simp only [← wrapF_eq]
         cases k <;> simp only [wrapF, halfF, modF, show ∀ a b : Int, Int.sub a b = a - b from fun _ _ => rfl, show ∀ a b : Int, Int.add a b = a + b from fun _ _ => rfl, show ∀ a b : Int, Int.emod a b = a % b from fun _ _ => rfl, Int.ofNat_eq_natCast] <;> omega
        rw [hk, wrap_in (k := k) ⟨by omega, by omega⟩]
        have m1 : minK .i64 ≤ minK k := by cases k <;> decide
        have m2 : maxK k ≤ maxK .i64 := by
         have hbits := h3.2.2
         cases k <;> first | decide | (exfalso; revert hbits; decide)
        exact wrap_in (k := .i64) ⟨by omega, by omega⟩
     ·exact ⟨_, rfl, fun _ _ => rfl⟩
   | true =>
    rw [Bool.and_eq_true] at h2
    have hop : op = .add := by cases op <;> first | rfl | cases h2.1
    subst hop
    show ∃ u, fitK rg k a (κ (.bin .add k a b)) κ = κ u ∧ _
    unfold fitK opt1'
    cases hg : rngS rg a with
    | none => exact ⟨_, rfl, fun _ _ => rfl⟩
    | some r =>
     simp only
     cases hb : leF (minK k) r.1 && leF r.2 (maxK k) with
     | true =>
      refine ⟨_, rfl, fun ρ hr => ?_⟩
      simp only [Bool.and_eq_true, leF_eq, decide_eq_true_eq] at hb
      have h1 := rngS_in hr a r.1 r.2 hg
      show _ = k.wrap (a.ev ρ + b.ev ρ)
      rw [isZ_ev h2.2, Int.add_zero]
      exact (wrap_in ⟨by omega, by omega⟩).symm
     | false => exact ⟨_, rfl, fun _ _ => rfl⟩
 | _ => exact ⟨_, rfl, fun _ _ => rfl⟩
theorem fitV_inv {rg : List (Int × Int)} {v : AV} {κ : AV → R} (hD : fitV rg v κ ∈ D) : ∃ u, κ u ∈ D ∧ ∀ {φ ρ a}, RgOk ρ rg → conc φ ρ v = some a → conc φ ρ u = some a := by
 unfold fitV at hD
 split at hD
 ·rename_i k e
  obtain ⟨u, h1, h2⟩ := stripK_eq (rg := rg) e fun e => κ (.int k e)
  rw [h1] at hD
  refine ⟨_, hD, fun {φ ρ a} hr ha => ?_⟩
  simp only [conc, h2 ρ hr] at ha ⊢
  exact ha
 ·exact ⟨_, hD, fun _ ha => ha⟩
theorem RunV.fit {φ : List Pl} {ρ : Nat → Int} {w : World} {m : Sem Value} {u v : AV} (h : RunV P φ ρ w m v) (hu : ∀ {a}, conc φ ρ v = some a → conc φ ρ u = some a) : RunV P φ ρ w m u := by
 obtain ⟨x, h1, h2⟩ := h
 exact ⟨x, hu h1, h2⟩
theorem litR_inv {rg : List (Int × Int)} {v : AV} {κ : AV → R} (hD : litR rg v κ ∈ D) : ∃ u, κ u ∈ D ∧ ∀ {φ ρ a}, RgOk ρ rg → conc φ ρ v = some a → conc φ ρ u = some a := by
 unfold litR at hD
 split at hD
 ·rename_i k e
  refine ⟨_, hD, fun {φ ρ a} hr ha => ?_⟩
  have s1 : ∀ e : SI, (sing1 rg e).ev ρ = e.ev ρ := by
   intro e
   unfold sing1 opt1'
   have hi := rngS_in hr e
   cases hg : rngS rg e with
   | none => rfl
   | some x =>
    obtain ⟨l, h⟩ := x
    obtain ⟨h1, h2⟩ := hi l h hg
    show SI.ev ρ (Bool.rec (motive := fun _ => SI) e (.lit l) (leF h l)) = _
    rw [leF_eq]
    by_cases hle : h ≤ l
    ·rw [decide_eq_true hle]; show l = _; omega
    ·rw [decide_eq_false hle]
  have : (singS rg e).ev ρ = e.ev ρ := by cases e <;> first | rfl | exact s1 _
  simp only [conc, this] at ha ⊢
  exact ha
 ·exact ⟨_, hD, fun _ ha => ha⟩
theorem isBytesT_spec {T : TypeId} (h : isBytesT P T = true) : ∃ e, P.underlying T = some (.slice e) ∧ P.underlying e = some (.int .u8) := by
 unfold isBytesT at h
 split at h
 ·rename_i e he
  split at h
  ·rename_i h2; exact ⟨e, he, h2⟩
  ·cases h
 ·cases h
theorem isStrT_spec {T : TypeId} (h : isStrT P T = true) : P.underlying T = some .string := by
 unfold isStrT at h
 split at h
 ·rename_i h2; exact h2
 ·cases h
theorem bytesOfL_inv : ∀ {l : List AV} {κ : List Nat → R}, bytesOfL l κ ∈ D → ∃ ns : List Nat, κ ns ∈ D ∧ l = ns.map fun n => .int .u8 (.lit (.ofNat n))
 | [], κ, h => ⟨[], h, rfl⟩
 | v :: l, κ, h => by
  have h : intV v (nat_lit 271) (fun k e => Bool.rec (motive := fun _ => R) (.fail 272) (asLitK (fun n => bytesOfL l fun r => κ (n :: r)) e) (kindEq k .u8)) ∈ D := h
  obtain ⟨k, e, rfl, h1⟩ := intV_inv h
  obtain ⟨hk, h2⟩ := brec_inv h1
  have hk := kindEq_of hk
  subst hk
  obtain ⟨n, rfl, h3⟩ := asLitK_inv h2
  obtain ⟨ns, h4, rfl⟩ := bytesOfL_inv h3
  exact ⟨n :: ns, h4, rfl⟩
theorem concL_bytes {φ : List Pl} {ρ : Nat → Int} : ∀ (ns : List Nat), concL φ ρ (ns.map fun n => AV.int .u8 (.lit (.ofNat n))) = some (ns.map fun n : Nat => Value.int .u8 (n : Int))
 | [] => rfl
 | n :: ns => by
  simp only [List.map_cons]
  exact concL_cons.2 ⟨_, _, rfl, concL_bytes ns, rfl⟩
theorem convS_sound {src dst : TypeId} {x : AV} {κ : AV → R} (hD : convS P src dst h x κ ∈ D) : ∃ u, κ u ∈ D ∧ ∀ {φ ρ w a}, Hp P φ ρ h w → conc φ ρ x = some a → RunV P φ ρ w (convert src dst a) u := by
 obtain ⟨hb, h1⟩ := brec_inv hD
 simp only [Bool.and_eq_true] at hb
 obtain ⟨e, hs, he⟩ := isBytesT_spec hb.1
 have hd := isStrT_spec hb.2
 split at h1
 ·rename_i id off len cap
  obtain ⟨n, c, d, T, r, hid, h2⟩ := objK_inv h1
  obtain ⟨hle, h3⟩ := brec_inv h2
  rw [natBle, decide_eq_true_eq] at hle
  obtain ⟨l, hl, h4, hcl⟩ := ldN_inv h3
  obtain ⟨ns, h5, rfl⟩ := bytesOfL_inv h4
  refine ⟨_, h5, fun {φ ρ w a} hp ha => ⟨_, rfl, ?_⟩⟩
  obtain ⟨p, hp', rfl⟩ := conc_sl' ha
  obtain ⟨p', arr, fz, hq, hc⟩ := hp.obj _ _ hid
  rw [hp'] at hq; cases hq
  obtain ⟨xs, q1, q2⟩ := cells_row hc _ off (by rw [hl]; exact hle) (by rw [hl]; exact hcl)
  rw [concL_bytes] at q1
  cases q1
  have hr := run_loadCells_list (P := P) (w := w) ⟨p.blk, p.sh + off, none⟩ _ q2
  simp only [List.length_map] at hl hr
  rw [hl] at hr
  rw [run_convert_bytes_string w src dst e _ _ _ hs he hd, run_bytesToString w _ _ _ (ns.map fun n : Nat => (n : Int)) (by rw [hr]; simp [Function.comp_def])]
  rw [foldl_push_bytes]
  simp [strOf, ByteArray.empty, ByteArray.emptyWithCapacity, Function.comp_def]
  rfl
 ·refine ⟨_, h1, fun {φ ρ w a} hp ha => ⟨_, rfl, ?_⟩⟩
  simp only [conc, Option.some.injEq] at ha
  subst ha
  rw [run_convert_bytes_string w src dst e _ _ _ hs he hd]
  simp [Conv.bytesToString]
  rfl
 ·cases h1
theorem intOfT_und {T : TypeId} {k : IntKind} (hk : intOfT P T = some k) : P.underlying T = some (.int k) := by
 unfold intOfT at hk
 split at hk
 ·rename_i k' hu; cases hk; exact hu
 ·cases hk
theorem conv_sound {src dst : TypeId} {x : AV} {κ : AV → R} (hD : convA P src dst x κ ∈ D) : ∃ u, κ u ∈ D ∧ ∀ {φ ρ w a}, conc φ ρ x = some a → RunV P φ ρ w (convert src dst a) u := by
 obtain ⟨d, hd, h1⟩ := optK_inv hD
 obtain ⟨k, hk, h2⟩ := optK_inv h1
 obtain ⟨k', e, rfl, h3⟩ := asInt_inv h2
 obtain ⟨r, hr, hev⟩ := convK_spec k e (intK κ k)
 rw [hr] at h3
 refine ⟨_, h3, fun {φ ρ w a} ha => ?_⟩
 simp only [conc, Option.some.injEq] at ha
 subst ha
 refine ⟨_, rfl, ?_⟩
 rw [hev]
 simp [convert, Sem.run_bind, run_underlying hd, run_underlying (intOfT_und hk), Conv.intToInt]
theorem convQ_sound {src dst : TypeId} {x : AV} {κ : AV → R} (hD : convQ P src dst h x κ ∈ D) : ∃ u, κ u ∈ D ∧ ∀ {φ ρ w a}, Hp P φ ρ h w → conc φ ρ x = some a → RunV P φ ρ w (convert src dst a) u := by
 unfold convQ at hD
 split at hD
 ·obtain ⟨u, h1, h2⟩ := conv_sound hD
  exact ⟨u, h1, fun _ ha => h2 ha⟩
 ·exact convS_sound hD
theorem fieldA_und {T : TypeId} {f : Nat} {p : Nat × TypeId} (hf : fieldA P T f = some p) : ∃ fs fd, P.underlying T = some (.struct fs) ∧ fs[f]? = some fd ∧ p = (fd.offset, fd.type) := by
 unfold fieldA at hf
 split at hf
 ·rename_i fs hu
  simp only [Option.map_eq_some_iff] at hf
  obtain ⟨fd, h1, rfl⟩ := hf
  exact ⟨fs, fd, hu, h1, rfl⟩
 ·cases hf
theorem conc_ptr {φ : List Pl} {ρ : Nat → Int} {id off : Nat} {a : Value} (h : conc φ ρ (.ptr id off) = some a) : ∃ p, φ[id]? = some p ∧ a = .pointer (some ⟨p.blk, p.sh + off, none⟩) := by
 simp only [conc, Option.map_eq_some_iff] at h
 obtain ⟨p, hp, rfl⟩ := h
 exact ⟨p, hp, rfl⟩
theorem fldAddr_sound {T : TypeId} {f : Nat} {x : AV} {κ : AV → R} (hD : fldAddr P T f x κ ∈ D) : ∃ u, κ u ∈ D ∧ ∀ {φ ρ w a}, conc φ ρ x = some a → RunV P φ ρ w (Instr.fieldAt T a f) u := by
 obtain ⟨id, off, rfl, hD⟩ := ptrV_inv hD
 ·skip
  obtain ⟨o, ho, h1⟩ := optK_inv hD
  unfold ptrK at h1
  rw [forceN_eq] at h1
  refine ⟨_, h1, fun {φ ρ w a} ha => ?_⟩
  obtain ⟨p, hp, rfl⟩ := conc_ptr ha
  unfold fieldPlaceA at ho
  split at ho
  ·rename_i o' t hf
   obtain ⟨fs, fd, hu, hfd, he⟩ := fieldA_und hf
   cases he
   split at ho
   ·rename_i n hn
    have hn0 : n ≠ 0 ∧ fd.offset = o := by
     rw [natBeq] at ho
     by_cases e : n = 0
     ·simp [e] at ho
     ·simp [e] at ho; exact ⟨e, ho⟩
    obtain ⟨hn0, rfl⟩ := hn0
    refine ⟨.pointer (some ⟨p.blk, p.sh + (off + fd.offset), none⟩), by simp [conc, hp], ?_⟩
    simp [Instr.fieldAt, Sem.run_bind, run_underlying hu, hfd, Instr.sureAddr, fieldPlace, run_size hn, hn0, add_plain, Nat.add_assoc]
   ·cases ho
  ·cases ho
theorem ixOf_arr {T : TypeId} {n e s : Nat} (h : ixOf P T = some (.arr n e s)) : P.underlying T = some (.array n e) ∧ sizeA P e = some s := by
 unfold ixOf at h
 split at h
 ·rename_i n' e' hu
  simp only [Option.map_eq_some_iff, IxK.arr.injEq] at h
  obtain ⟨s', h1, rfl, rfl, rfl⟩ := h
  exact ⟨hu, h1⟩
 ·simp at h
 ·cases h
theorem ixOf_sli {T : TypeId} {e s : Nat} (h : ixOf P T = some (.sli e s)) : P.underlying T = some (.slice e) ∧ sizeA P e = some s := by
 unfold ixOf at h
 split at h
 ·simp at h
 ·rename_i e' hu
  simp only [Option.map_eq_some_iff, IxK.sli.injEq] at h
  obtain ⟨s', h1, rfl, rfl⟩ := h
  exact ⟨hu, h1⟩
 ·cases h
theorem conc_sl {φ : List Pl} {ρ : Nat → Int} {id off len : Nat} {cap : Option Nat} {a : Value} (h : conc φ ρ (.sl id off len cap) = some a) : ∃ p, φ[id]? = some p ∧ a = .slice (some ⟨p.blk, p.sh + off, none⟩) len (cap.getD (p.room off)) := by
 simp only [conc, Option.map_eq_some_iff] at h
 obtain ⟨p, hp, rfl⟩ := h
 exact ⟨p, hp, rfl⟩
theorem ixAddr_sound {T : TypeId} {x i : AV} {κ : AV → R} (hD : ixAddr P T x i κ ∈ D) : ∃ u, κ u ∈ D ∧ ∀ {φ ρ w a b}, conc φ ρ x = some a → conc φ ρ i = some b → RunV P φ ρ w (Instr.indexAt T a b) u := by
 obtain ⟨k, n, rfl, h1⟩ := asNat_inv hD
 obtain ⟨d, hd, h2⟩ := optK_inv h1
 split at h2
 ·rename_i m e s
  split at h2
  ·rename_i id off
   obtain ⟨hlt, h3⟩ := brec_inv h2
   rw [natBlt] at hlt
   have hlt := of_decide_eq_true hlt
   unfold ptrK at h3
   rw [forceN_eq] at h3
   refine ⟨_, h3, fun {φ ρ w a b} ha hb => ?_⟩
   obtain ⟨p, hp, rfl⟩ := conc_ptr ha
   simp only [conc, SI.ev, Option.some.injEq] at hb
   subst hb
   obtain ⟨hu, hs⟩ := ixOf_arr hd
   refine ⟨.pointer (some ⟨p.blk, p.sh + (off + n * s), none⟩), by simp [conc, hp], ?_⟩
   have : (n : Int) < (m : Int) := by omega
   simp [Instr.indexAt, asIntOf, Sem.run_bind, run_underlying hu, Instr.sureAddr, run_size hs, add_plain, Nat.add_assoc, this]
   intro hle; omega
  ·cases h2
 ·rename_i e s
  split at h2
  ·rename_i id off len cap
   obtain ⟨hlt, h3⟩ := brec_inv h2
   rw [natBlt] at hlt
   have hlt := of_decide_eq_true hlt
   unfold ptrK at h3
   rw [forceN_eq] at h3
   refine ⟨_, h3, fun {φ ρ w a b} ha hb => ?_⟩
   obtain ⟨p, hp, rfl⟩ := conc_sl ha
   simp only [conc, SI.ev, Option.some.injEq] at hb
   subst hb
   obtain ⟨hu, hs⟩ := ixOf_sli hd
   refine ⟨.pointer (some ⟨p.blk, p.sh + (off + n * s), none⟩), by simp [conc, hp], ?_⟩
   have : (n : Int) < (len : Int) := by omega
   simp [Instr.indexAt, asIntOf, Sem.run_bind, run_underlying hu, run_size hs, add_plain, Nat.add_assoc, this]
   intro hle; omega
  ·cases h2
theorem takeA_inv : ∀ {n : Nat} {l : List AV} {κ : List AV → R}, takeA l n κ ∈ D → n ≤ l.length ∧ κ (l.take n) ∈ D
 | 0, l, κ, h => ⟨Nat.zero_le _, h⟩
 | n + 1, [], κ, h => by cases h
 | n + 1, v :: l, κ, h => by
  obtain ⟨h1, h2⟩ := takeA_inv (n := n) (l := l) (κ := fun r => κ (v :: r)) h
  exact ⟨by simp; omega, by simpa using h2⟩
theorem dropA_eq : ∀ (n : Nat) (l : List AV), dropA l n = l.drop n
 | 0, l => rfl
 | n + 1, [] => rfl
 | n + 1, v :: l => by
  show dropA l n = _
  rw [dropA_eq n l]; rfl
theorem part_sound {T : TypeId} {l : List AV} {off : Nat} {κ : AV → R} (hD : partA P T l off κ ∈ D) : ∃ u, κ u ∈ D ∧ ∀ {φ ρ w xs}, concL φ ρ l = some xs → RunV P φ ρ w (part T xs.toArray off) u := by
 obtain ⟨o, ho, h1⟩ := optK_inv hD
 cases o with
 | none =>
  have h1 : headK κ (dropA l off) ∈ D := h1
  rw [dropA_eq] at h1
  unfold headK at h1
  split at h1
  ·cases h1
  ·rename_i v l' hl
   refine ⟨v, h1, fun {φ ρ w xs} hx => ?_⟩
   have hv : l[off]? = some v := by
    have := congrArg (·[0]?) hl
    simpa using this
   obtain ⟨x, h2, h3⟩ := concL_get hx hv
   refine ⟨x, h2, ?_⟩
   simp [part, Sem.run_bind, run_isAgg ho, h3]
 | some n =>
  have h1 : takeA (dropA l off) n (fun r => κ (.agg r)) ∈ D := h1
  rw [dropA_eq] at h1
  obtain ⟨hle, h2⟩ := takeA_inv h1
  refine ⟨_, h2, fun {φ ρ w xs} hx => ?_⟩
  refine ⟨.agg ((xs.drop off).take n).toArray, by simp [conc, concL_take n (concL_drop off hx)], ?_⟩
  simp only [part, Sem.run_bind, run_isAgg ho, Result.andThen_ok, Option.isSome_some, if_true, run_size (agg_size ho)]
  simp [List.take_drop]
theorem conc_agg {φ : List Pl} {ρ : Nat → Int} {l : List AV} {a : Value} (h : conc φ ρ (.agg l) = some a) : ∃ xs, concL φ ρ l = some xs ∧ a = .agg xs.toArray := by
 simp only [conc, Option.map_eq_some_iff] at h
 obtain ⟨p, hp, rfl⟩ := h
 exact ⟨p, hp, rfl⟩
theorem fld_sound {T : TypeId} {f : Nat} {x : AV} {κ : AV → R} (hD : fldA P T f x κ ∈ D) : ∃ u, κ u ∈ D ∧ ∀ {φ ρ w a}, conc φ ρ x = some a → RunV P φ ρ w (Instr.field T a f) u := by
 unfold fldA at hD
 split at hD
 ·rename_i l
  obtain ⟨p, hp, h1⟩ := optK_inv hD
  obtain ⟨fs, fd, hu, hfd, rfl⟩ := fieldA_und hp
  obtain ⟨u, h2, hu2⟩ := part_sound h1
  refine ⟨u, h2, fun {φ ρ w a} ha => ?_⟩
  obtain ⟨xs, hxs, rfl⟩ := conc_agg ha
  obtain ⟨y, hy, hr⟩ := hu2 (w := w) hxs
  exact ⟨y, hy, by simp [Instr.field, Sem.run_bind, run_underlying hu, hfd, asAgg, hr]⟩
 ·cases hD
theorem ix_sound {T : TypeId} {x i : AV} {κ : AV → R} (hD : ixA P T x i κ ∈ D) : ∃ u, κ u ∈ D ∧ ∀ {φ ρ w a b}, conc φ ρ x = some a → conc φ ρ i = some b → RunV P φ ρ w (Instr.index T a b) u := by
 obtain ⟨k, n, rfl, h0⟩ := asNat_inv hD
 rcases brec_cases h0 with ⟨hstr, h1⟩ | ⟨_, h1⟩
 ·have hu : P.underlying T = some .string := by
   unfold isStrT at hstr
   split at hstr
   ·assumption
   ·cases hstr
  unfold ixS at h1
  split at h1
  ·rename_i s
   split at h1
   ·rename_i c hc
    rw [forceN_eq] at h1
    refine ⟨_, h1, fun {φ ρ w a b} ha hb => ?_⟩
    simp only [conc, SI.ev, Option.some.injEq] at ha hb
    subst ha
    subst hb
    refine ⟨_, rfl, ?_⟩
    have h0 : (0 : Int) ≤ Int.ofNat n := Int.natCast_nonneg n
    have h2 : (if 0 ≤ Int.ofNat n then s[(Int.ofNat n).toNat]? else none) = some c := by rw [if_pos h0]; exact hc
    simp only [Instr.index, asIntOf, Sem.run_bind, Sem.run_pure, Result.andThen_ok, run_underlying hu]
    rw [h2]
    rfl
   ·cases h1
  ·cases h1
 obtain ⟨d, hd, h2⟩ := optK_inv h1
 split at h2
 ·rename_i m e s
  split at h2
  ·rename_i l
   obtain ⟨hlt, h3⟩ := brec_inv h2
   rw [natBlt] at hlt
   have hlt := of_decide_eq_true hlt
   obtain ⟨u, h4, hu4⟩ := part_sound h3
   refine ⟨u, h4, fun {φ ρ w a b} ha hb => ?_⟩
   obtain ⟨xs, hxs, rfl⟩ := conc_agg ha
   simp only [conc, SI.ev, Option.some.injEq] at hb
   subst hb
   obtain ⟨hu, hs⟩ := ixOf_arr hd
   obtain ⟨y, hy, hr⟩ := hu4 (w := w) hxs
   have : (n : Int) < (m : Int) := by omega
   exact ⟨y, hy, by simp [Instr.index, asIntOf, Sem.run_bind, run_underlying hu, run_size hs, this]; rw [if_pos hlt]; exact hr⟩
  ·cases h2
 ·cases h2
theorem ext_sound {x : AV} {n : Nat} {κ : AV → R} (hD : extA x n κ ∈ D) : ∃ u, κ u ∈ D ∧ ∀ {φ ρ w a}, conc φ ρ x = some a → RunV P φ ρ w (Instr.extract a n) u := by
 unfold extA at hD
 split at hD
 ·rename_i l
  unfold nthK at hD
  rw [dropA_eq] at hD
  unfold headK at hD
  split at hD
  ·cases hD
  ·rename_i v l' hl
   refine ⟨v, hD, fun {φ ρ w a} ha => ?_⟩
   simp only [conc, Option.map_eq_some_iff] at ha
   obtain ⟨xs, hxs, rfl⟩ := ha
   have hv : l[n]? = some v := by
    have := congrArg (·[0]?) hl
    simpa using this
   obtain ⟨x, h2, h3⟩ := concL_get hxs hv
   exact ⟨x, h2, by simp [Instr.extract, h3]⟩
 ·cases hD
end
end Go.Proofs.YtooebogidjejoaaGreat
namespace Go.Proofs.YtooebogidjejoaaGreat
open Go
section
variable {D : Dn}
theorem nnB_ok {rg : List (Int × Int)} {e : SI} (h : nnB rg e = true) {ρ : Nat → Int} (hr : RgOk ρ rg) : 0 ≤ e.ev ρ ∧ e.ev ρ ≤ 2305843009213693952 := by
 unfold nnB at h
 cases hx : rngS rg e with
 | none => rw [hx] at h; cases h
 | some r =>
  obtain ⟨l, u⟩ := r
  rw [hx] at h
  have h : (pos0 l && leF u big62) = true := h
  simp only [Bool.and_eq_true, pos0_eq, leF_eq, decide_eq_true_eq] at h
  have hin := rngS_in hr e l u hx
  have h2 : u ≤ 2305843009213693952 := h.2
  omega
theorem posR_ok {rg : List (Int × Int)} {e : SI} (h : posR rg e = true) {ρ : Nat → Int} (hr : RgOk ρ rg) : 1 ≤ e.ev ρ := by
 unfold posR at h
 cases hx : rngS rg e with
 | none => rw [hx] at h; cases h
 | some r =>
  obtain ⟨l, u⟩ := r
  rw [hx] at h
  have h : leF (.ofNat 1) l = true := h
  rw [leF_eq, decide_eq_true_eq] at h
  have hin := rngS_in hr e l u hx
  have : (1 : Int) ≤ l := h
  omega
theorem leD_inv {pc : PC} {a b : SI} {κ : Bool → PC → R} (h : leD pc a b κ ∈ D) : ∃ c pc', κ c pc' ∈ D ∧ PcExt pc pc' ∧ ∀ ρ, Holds ρ pc' → (c = true ↔ a.ev ρ ≤ b.ev ρ) := by
 unfold leD at h
 obtain ⟨e, he, hev⟩ := cmpK_spec .leq a b fun c => decK pc c κ
 rw [he] at h
 obtain ⟨c, pc', h1, hx, h2⟩ := decK_inv h
 refine ⟨c, pc', h1, hx, fun ρ hρ => ?_⟩
 rw [← h2 ρ hρ, hev]
 simp [cmpZ]
theorem binAdd_ev {x y : Int} (h1 : 0 ≤ x) (h2 : x ≤ 2305843009213693952) (h3 : 0 ≤ y) (h4 : y ≤ 2305843009213693952 - 1) : binZ .add .i64 x y = x + y := wrap_in (k := .i64) ⟨by show (-9223372036854775808 : Int) ≤ _; omega, by show _ ≤ (9223372036854775807 : Int); omega⟩
def Same64 (x y : Int) : Prop := -9223372036854775808 ≤ x ∧ x ≤ 9223372036854775807 ∧ ∃ q : Int, x = y + q * 18446744073709551616
theorem wrap64_same (n : Int) : Same64 (IntKind.i64.wrap n) n := by
 have h : IntKind.i64.wrap n = (n + 9223372036854775808) % 18446744073709551616 - 9223372036854775808 := by
  simp only [IntKind.wrap, IntKind.bits, IntKind.signed]
  simp
  split <;> omega
 unfold Same64
 rw [h]
 refine ⟨by omega, by omega, -((n + 9223372036854775808) / 18446744073709551616), ?_⟩
 omega
theorem linF_inv {a : SI} {κ0 : Int → R} {κp κm : SI → Int → R} (h : linF a κ0 κp κm ∈ D) : (∃ n, κ0 n ∈ D ∧ ∀ ρ, ∃ q : Int, a.ev ρ = n + q * 18446744073709551616) ∨ (∃ x c, κp x c ∈ D ∧ ∀ ρ, ∃ q : Int, a.ev ρ = x.ev ρ + c + q * 18446744073709551616) ∨ (∃ x c, κm x c ∈ D ∧ ∀ ρ, ∃ q : Int, a.ev ρ = c - x.ev ρ + q * 18446744073709551616) := by
 unfold linF at h
 split at h
 ·exact .inl ⟨_, h, fun ρ => ⟨0, by simp [SI.ev]⟩⟩
 ·refine .inr (.inl ⟨_, _, h, fun ρ => ?_⟩)
  obtain ⟨_, _, q, e⟩ := wrap64_same (SI.ev ρ _ + SI.ev ρ (.lit _))
  exact ⟨q, e⟩
 ·rename_i c x d
  rw [forceI_eq] at h
  refine .inr (.inr ⟨_, _, h, fun ρ => ?_⟩)
  obtain ⟨_, _, q, e⟩ := wrap64_same (c - (IntKind.i64.wrap (x.ev ρ + d)))
  obtain ⟨_, _, q2, e2⟩ := wrap64_same (x.ev ρ + d)
  refine ⟨q - q2, ?_⟩
  show IntKind.i64.wrap (c - (IntKind.i64.wrap (x.ev ρ + d))) = c - d - x.ev ρ + (q - q2) * 18446744073709551616
  rw [e, e2]
  omega
 ·rename_i c x _
  refine .inr (.inr ⟨_, _, h, fun ρ => ?_⟩)
  obtain ⟨_, _, q, e⟩ := wrap64_same (c - x.ev ρ)
  exact ⟨q, e⟩
 ·refine .inr (.inl ⟨_, _, h, fun ρ => ⟨0, ?_⟩⟩)
  show _ = _ + (0 : Int) + _
  omega
theorem wrapF64 (n : Int) : wrapF .i64 n = IntKind.i64.wrap n := wrapF_eq .i64 n
theorem litF_inv {n : Int} {κ : SI → R} (h : litF n κ ∈ D) : ∃ e, κ e ∈ D ∧ ∀ ρ, Same64 (e.ev ρ) n := by
 unfold litF at h
 rw [forceI_eq, wrapF64] at h
 exact ⟨_, h, fun ρ => wrap64_same n⟩
theorem mnF_inv {n : Int} {x : SI} {κ : SI → R} (h : mnF n x κ ∈ D) : ∃ e, κ e ∈ D ∧ ∀ ρ, Same64 (e.ev ρ) (n - x.ev ρ) := by
 unfold mnF at h
 rw [forceI_eq, wrapF64] at h
 refine ⟨_, h, fun ρ => ?_⟩
 obtain ⟨h1, h2, q, e⟩ := wrap64_same (IntKind.i64.wrap n - x.ev ρ)
 obtain ⟨_, _, q2, e2⟩ := wrap64_same n
 exact ⟨h1, h2, q + q2, by show IntKind.i64.wrap (IntKind.i64.wrap n - x.ev ρ) = _; rw [e, e2]; omega⟩
theorem adF_inv {n : Int} {x : SI} {κ : SI → R} (h : adF x n κ ∈ D) : ∃ e, κ e ∈ D ∧ ∀ ρ, Same64 (e.ev ρ) (x.ev ρ + n) := by
 unfold adF at h
 rw [forceI_eq, wrapF64] at h
 refine ⟨_, h, fun ρ => ?_⟩
 obtain ⟨h1, h2, q, e⟩ := wrap64_same (x.ev ρ + IntKind.i64.wrap n)
 obtain ⟨_, _, q2, e2⟩ := wrap64_same n
 exact ⟨h1, h2, q + q2, by show IntKind.i64.wrap (x.ev ρ + IntKind.i64.wrap n) = _; rw [e, e2]; omega⟩
theorem Same64.of {x y z : Int} (h : Same64 x y) (hz : ∃ q : Int, z = y + q * 18446744073709551616) : Same64 x z := by
 obtain ⟨h1, h2, q, e⟩ := h
 obtain ⟨q2, e2⟩ := hz
 exact ⟨h1, h2, q - q2, by omega⟩
theorem binK64 {op : BinOp} {a b : SI} {κ : SI → R} (h : binK op .i64 a b κ ∈ D) : ∃ e, κ e ∈ D ∧ ∀ ρ, e.ev ρ = binZ op .i64 (a.ev ρ) (b.ev ρ) := by
 obtain ⟨e, he, hev⟩ := binK_spec op .i64 a b κ
 rw [he] at h
 exact ⟨e, h, hev⟩
theorem addK_inv {a b : SI} {κ : SI → R} (h : binK .add .i64 a b κ ∈ D) : ∃ e, κ e ∈ D ∧ ∀ ρ, Same64 (e.ev ρ) (a.ev ρ + b.ev ρ) := by
 obtain ⟨e, h1, h2⟩ := binK64 h
 exact ⟨e, h1, fun ρ => by rw [h2]; exact wrap64_same _⟩
theorem subK_inv {a b : SI} {κ : SI → R} (h : binK .sub .i64 a b κ ∈ D) : ∃ e, κ e ∈ D ∧ ∀ ρ, Same64 (e.ev ρ) (a.ev ρ - b.ev ρ) := by
 obtain ⟨e, h1, h2⟩ := binK64 h
 exact ⟨e, h1, fun ρ => by rw [h2]; exact wrap64_same _⟩
theorem plL_inv {a b : SI} {κ : SI → R} (h : plL a b κ ∈ D) : ∃ e, κ e ∈ D ∧ ∀ ρ, Same64 (e.ev ρ) (a.ev ρ + b.ev ρ) := by
 rcases linF_inv h with ⟨n, h, ha⟩ | ⟨x, c, h, ha⟩ | ⟨x, c, h, ha⟩
 ·rcases linF_inv h with ⟨m, h, hb⟩ | ⟨y, d, h, hb⟩ | ⟨y, d, h, hb⟩
  ·obtain ⟨e, h1, h2⟩ := litF_inv h
   refine ⟨e, h1, fun ρ => (h2 ρ).of ?_⟩
   obtain ⟨q, e1⟩ := ha ρ
   obtain ⟨q2, e2⟩ := hb ρ
   exact ⟨q + q2, by show _ = n + m + _; omega⟩
  ·exact addK_inv h
  ·obtain ⟨e, h1, h2⟩ := mnF_inv h
   refine ⟨e, h1, fun ρ => (h2 ρ).of ?_⟩
   obtain ⟨q, e1⟩ := ha ρ
   obtain ⟨q2, e2⟩ := hb ρ
   exact ⟨q + q2, by show _ = n + d - _ + _; omega⟩
 ·rcases linF_inv h with ⟨m, h, hb⟩ | ⟨y, d, h, hb⟩ | ⟨y, d, h, hb⟩
  ·exact addK_inv h
  ·obtain ⟨e, h1, h2⟩ := adF_inv h
   refine ⟨e, h1, fun ρ => (h2 ρ).of ?_⟩
   obtain ⟨q, e1⟩ := ha ρ
   obtain ⟨q2, e2⟩ := hb ρ
   obtain ⟨_, _, q3, e3⟩ := wrap64_same (x.ev ρ + y.ev ρ)
   exact ⟨q + q2 - q3, by show _ = IntKind.i64.wrap (x.ev ρ + y.ev ρ) + (c + d) + _; omega⟩
  ·rcases brec_cases h with ⟨hs, h⟩ | ⟨_, h⟩
   ·obtain ⟨e, h1, h2⟩ := litF_inv h
    refine ⟨e, h1, fun ρ => (h2 ρ).of ?_⟩
    have hxy := SI.beq_eq _ _ hs
    subst hxy
    obtain ⟨q, e1⟩ := ha ρ
    obtain ⟨q2, e2⟩ := hb ρ
    exact ⟨q + q2, by show _ = c + d + _; omega⟩
   ·exact addK_inv h
 ·rcases linF_inv h with ⟨m, h, hb⟩ | ⟨y, d, h, hb⟩ | ⟨y, d, h, hb⟩
  ·obtain ⟨e, h1, h2⟩ := mnF_inv h
   refine ⟨e, h1, fun ρ => (h2 ρ).of ?_⟩
   obtain ⟨q, e1⟩ := ha ρ
   obtain ⟨q2, e2⟩ := hb ρ
   exact ⟨q + q2, by show _ = c + m - _ + _; omega⟩
  ·rcases brec_cases h with ⟨hs, h⟩ | ⟨_, h⟩
   ·obtain ⟨e, h1, h2⟩ := litF_inv h
    refine ⟨e, h1, fun ρ => (h2 ρ).of ?_⟩
    have hxy := SI.beq_eq _ _ hs
    subst hxy
    obtain ⟨q, e1⟩ := ha ρ
    obtain ⟨q2, e2⟩ := hb ρ
    exact ⟨q + q2, by show _ = c + d + _; omega⟩
   ·exact addK_inv h
  ·exact addK_inv h
theorem mnL_inv {a b : SI} {κ : SI → R} (h : mnL a b κ ∈ D) : ∃ e, κ e ∈ D ∧ ∀ ρ, Same64 (e.ev ρ) (a.ev ρ - b.ev ρ) := by
 rcases linF_inv h with ⟨n, h, ha⟩ | ⟨x, c, h, ha⟩ | ⟨x, c, h, ha⟩
 ·rcases linF_inv h with ⟨m, h, hb⟩ | ⟨y, d, h, hb⟩ | ⟨y, d, h, hb⟩
  ·obtain ⟨e, h1, h2⟩ := litF_inv h
   refine ⟨e, h1, fun ρ => (h2 ρ).of ?_⟩
   obtain ⟨q, e1⟩ := ha ρ
   obtain ⟨q2, e2⟩ := hb ρ
   exact ⟨q - q2, by show _ = n - m + _; omega⟩
  ·obtain ⟨e, h1, h2⟩ := mnF_inv h
   refine ⟨e, h1, fun ρ => (h2 ρ).of ?_⟩
   obtain ⟨q, e1⟩ := ha ρ
   obtain ⟨q2, e2⟩ := hb ρ
   exact ⟨q - q2, by show _ = n - d - _ + _; omega⟩
  ·obtain ⟨e, h1, h2⟩ := adF_inv h
   refine ⟨e, h1, fun ρ => (h2 ρ).of ?_⟩
   obtain ⟨q, e1⟩ := ha ρ
   obtain ⟨q2, e2⟩ := hb ρ
   exact ⟨q - q2, by show _ = _ + (n - d) + _; omega⟩
 ·rcases linF_inv h with ⟨m, h, hb⟩ | ⟨y, d, h, hb⟩ | ⟨y, d, h, hb⟩
  ·exact subK_inv h
  ·rcases brec_cases h with ⟨hs, h⟩ | ⟨_, h⟩
   ·obtain ⟨e, h1, h2⟩ := litF_inv h
    refine ⟨e, h1, fun ρ => (h2 ρ).of ?_⟩
    have hxy := SI.beq_eq _ _ hs
    subst hxy
    obtain ⟨q, e1⟩ := ha ρ
    obtain ⟨q2, e2⟩ := hb ρ
    exact ⟨q - q2, by show _ = c - d + _; omega⟩
   ·exact subK_inv h
  ·exact subK_inv h
 ·rcases linF_inv h with ⟨m, h, hb⟩ | ⟨y, d, h, hb⟩ | ⟨y, d, h, hb⟩
  ·obtain ⟨e, h1, h2⟩ := mnF_inv h
   refine ⟨e, h1, fun ρ => (h2 ρ).of ?_⟩
   obtain ⟨q, e1⟩ := ha ρ
   obtain ⟨q2, e2⟩ := hb ρ
   exact ⟨q - q2, by show _ = c - m - _ + _; omega⟩
  ·exact subK_inv h
  ·rcases brec_cases h with ⟨hs, h⟩ | ⟨_, h⟩
   ·obtain ⟨e, h1, h2⟩ := litF_inv h
    refine ⟨e, h1, fun ρ => (h2 ρ).of ?_⟩
    have hxy := SI.beq_eq _ _ hs
    subst hxy
    obtain ⟨q, e1⟩ := ha ρ
    obtain ⟨q2, e2⟩ := hb ρ
    exact ⟨q - q2, by show _ = c - d + _; omega⟩
   ·exact subK_inv h
theorem plE_inv {pc : PC} {a b : SI} {κ : SI → R} (h : plE pc a b κ ∈ D) : ∃ e, κ e ∈ D ∧ ∀ ρ, RgOk ρ pc.rg → e.ev ρ = a.ev ρ + b.ev ρ ∧ 0 ≤ a.ev ρ ∧ 0 ≤ b.ev ρ := by
 obtain ⟨hb, h1⟩ := brec_inv h
 rw [Bool.and_eq_true] at hb
 have key : ∀ ρ, RgOk ρ pc.rg → 0 ≤ a.ev ρ ∧ 0 ≤ b.ev ρ := fun ρ hr => ⟨(nnB_ok hb.1 hr).1, (nnB_ok hb.2 hr).1⟩
 rcases brec_cases h1 with ⟨hz, h2⟩ | ⟨_, h2⟩
 ·exact ⟨a, h2, fun ρ hr => ⟨by rw [isZ_ev hz]; omega, key ρ hr⟩⟩
 rcases brec_cases h2 with ⟨hz, h3⟩ | ⟨_, h1⟩
 ·exact ⟨b, h3, fun ρ hr => ⟨by rw [isZ_ev hz]; omega, key ρ hr⟩⟩
 obtain ⟨e, h1, hev⟩ := plL_inv h1
 refine ⟨e, h1, fun ρ hr => ?_⟩
 obtain ⟨a1, a2⟩ := nnB_ok hb.1 hr
 obtain ⟨b1, b2⟩ := nnB_ok hb.2 hr
 refine ⟨?_, a1, b1⟩
 obtain ⟨e1, e2, q, e3⟩ := hev ρ
 omega
theorem subX_inv {x y e : SI} (h : subX x y = some e) : ∃ u, (x = .bin .add .i64 y u ∨ x = .bin .add .i64 u y) ∧ e = u := by
 unfold subX at h
 split at h
 ·rename_i u v
  cases hu : SI.beq u y with
  | true =>
   rw [hu] at h
   cases h
   rw [SI.beq_eq _ _ hu]
   exact ⟨_, .inl rfl, rfl⟩
  | false =>
   rw [hu] at h
   cases hv : SI.beq v y with
   | true =>
    rw [hv] at h
    cases h
    rw [SI.beq_eq _ _ hv]
    exact ⟨_, .inr rfl, rfl⟩
   | false => rw [hv] at h; cases h
 ·cases h
theorem mnX_inv {pc : PC} {a b : SI} {κ : SI → R} (h : mnX pc a b κ ∈ D) : ∃ e, κ e ∈ D ∧ ∀ ρ, RgOk ρ pc.rg → Same64 (e.ev ρ) (a.ev ρ - b.ev ρ) := by
 have go : mnL a b κ ∈ D → ∃ e, κ e ∈ D ∧ ∀ ρ, RgOk ρ pc.rg → Same64 (e.ev ρ) (a.ev ρ - b.ev ρ) := fun h => by
  obtain ⟨e, h1, h2⟩ := mnL_inv h
  exact ⟨e, h1, fun ρ _ => h2 ρ⟩
 rcases linF_inv h with ⟨n, h, ha⟩ | ⟨x, c, h, ha⟩ | ⟨x, c, h, ha⟩
 ·exact go h
 ·rcases linF_inv h with ⟨m, h, hb⟩ | ⟨y, d, h, hb⟩ | ⟨y, d, h, hb⟩
  ·exact go h
  ·split at h
   ·rename_i e he
    obtain ⟨u, hx, rfl⟩ := subX_inv he
    have key : ∀ ρ, ∃ q : Int, a.ev ρ - b.ev ρ = e.ev ρ + (c - d) + q * 18446744073709551616 := fun ρ => by
     obtain ⟨q, e1⟩ := ha ρ
     obtain ⟨q2, e2⟩ := hb ρ
     rcases hx with rfl | rfl
     ·obtain ⟨_, _, q3, e3⟩ := wrap64_same (y.ev ρ + e.ev ρ)
      have e1 : a.ev ρ = IntKind.i64.wrap (y.ev ρ + e.ev ρ) + c + q * 18446744073709551616 := e1
      exact ⟨q - q2 + q3, by omega⟩
     ·obtain ⟨_, _, q3, e3⟩ := wrap64_same (e.ev ρ + y.ev ρ)
      have e1 : a.ev ρ = IntKind.i64.wrap (e.ev ρ + y.ev ρ) + c + q * 18446744073709551616 := e1
      exact ⟨q - q2 + q3, by omega⟩
    rcases brec_cases h with ⟨hs, h⟩ | ⟨_, h⟩
    ·rw [Bool.and_eq_true, beqF_eq, decide_eq_true_eq] at hs
     refine ⟨e, h, fun ρ hr => ?_⟩
     obtain ⟨n1, n2⟩ := nnB_ok hs.2 hr
     obtain ⟨q, e1⟩ := key ρ
     exact ⟨by omega, by omega, -q, by have := hs.1; omega⟩
    ·obtain ⟨e', h1, h2⟩ := adF_inv h
     refine ⟨e', h1, fun ρ _ => (h2 ρ).of ?_⟩
     exact key ρ
   ·exact go h
  ·exact go h
 ·exact go h
theorem mnE_inv {pc : PC} {a b : SI} {κ : SI → R} (h : mnE pc a b κ ∈ D) : ∃ e, κ e ∈ D ∧ ∀ ρ, RgOk ρ pc.rg → e.ev ρ = a.ev ρ - b.ev ρ ∧ 0 ≤ a.ev ρ ∧ 0 ≤ b.ev ρ := by
 obtain ⟨hb, h1⟩ := brec_inv h
 rw [Bool.and_eq_true] at hb
 have key : ∀ ρ, RgOk ρ pc.rg → 0 ≤ a.ev ρ ∧ 0 ≤ b.ev ρ := fun ρ hr => ⟨(nnB_ok hb.1 hr).1, (nnB_ok hb.2 hr).1⟩
 rcases brec_cases h1 with ⟨hz, h2⟩ | ⟨_, h2⟩
 ·exact ⟨a, h2, fun ρ hr => ⟨by rw [isZ_ev hz]; omega, key ρ hr⟩⟩
 rcases brec_cases h2 with ⟨hz, h3⟩ | ⟨_, h1⟩
 ·exact ⟨zeroS, h3, fun ρ hr => ⟨by rw [SI.beq_eq _ _ hz]; show (0 : Int) = _; omega, key ρ hr⟩⟩
 obtain ⟨e, h1, hev⟩ := mnX_inv h1
 refine ⟨e, h1, fun ρ hr => ?_⟩
 obtain ⟨a1, a2⟩ := nnB_ok hb.1 hr
 obtain ⟨b1, b2⟩ := nnB_ok hb.2 hr
 refine ⟨?_, a1, b1⟩
 obtain ⟨e1, e2, q, e3⟩ := hev ρ hr
 omega
theorem takeS_inv : ∀ {n : Nat} {l : List SI} {κ : List SI → R}, takeS l n κ ∈ D → κ (l.take n) ∈ D ∧ n ≤ l.length
 | 0, l, κ, h => ⟨h, Nat.zero_le _⟩
 | n + 1, [], κ, h => by cases h
 | n + 1, v :: l, κ, h => by
  obtain ⟨h1, h2⟩ := takeS_inv (n := n) (l := l) (κ := fun r => κ (v :: r)) h
  exact ⟨h1, by simp only [List.length_cons]; omega⟩
theorem litN_inv {e : SI} {κ : Nat → R} (h : litN e κ ∈ D) : ∃ n : Nat, e = .lit (.ofNat n) ∧ κ n ∈ D := by
 cases e with
 | lit n =>
  cases n with
  | ofNat n => exact ⟨n, rfl, h⟩
  | negSucc n => cases h
 | var i => cases h
 | bin _ _ _ _ => cases h
 | conv _ _ => cases h
 | fold _ => cases h
 | rs _ _ _ _ => cases h
theorem lenH_inv {c : Ch} {κ : SI → R} (h : lenH c κ ∈ D) : ∃ m, κ m ∈ D ∧ ∀ ρ, (c.zs ρ).length = (m.ev ρ).toNat := by
 cases c with
 | bs l =>
  have h : forceN (lenSI l) (fun n => κ (natS n)) ∈ D := h
  rw [forceN_eq] at h
  refine ⟨_, h, fun ρ => ?_⟩
  simp only [Ch.zs, List.length_map, natS, SI.ev, lenSI_eq]
  rfl
 | fil n v => exact ⟨n, h, fun ρ => by simp [Ch.zs]⟩
 | row a o n => exact ⟨n, h, fun ρ => by simp [Ch.zs]⟩
theorem cutC_inv {c : Ch} {n : SI} {κ : Ch → R} (h : cutC c n κ ∈ D) : ∃ c', κ c' ∈ D ∧ ∀ ρ, 0 ≤ n.ev ρ → (n.ev ρ).toNat ≤ (c.zs ρ).length → c'.zs ρ = (c.zs ρ).take (n.ev ρ).toNat := by
 cases c with
 | bs l =>
  obtain ⟨k, rfl, h1⟩ := litN_inv (show litN n (fun n => takeS l n fun l => κ (.bs l)) ∈ D from h)
  obtain ⟨h2, h3⟩ := takeS_inv h1
  refine ⟨_, h2, fun ρ _ _ => ?_⟩
  simp only [Ch.zs, SI.ev, List.map_take]
  rfl
 | fil m v =>
  refine ⟨_, h, fun ρ h1 h2 => ?_⟩
  simp only [Ch.zs, List.length_replicate] at h2 ⊢
  rw [List.take_replicate, Nat.min_eq_left h2]
 | row a o m =>
  refine ⟨_, h, fun ρ h1 h2 => ?_⟩
  simp only [Ch.zs, List.length_map, List.length_range] at h2 ⊢
  rw [← List.map_take, List.take_range, Nat.min_eq_left h2]
theorem range_drop (k m : Nat) (f : Nat → Int) : ((List.range m).map f).drop k = (List.range (m - k)).map fun i => f (k + i) := by
 apply List.ext_getElem?
 intro i
 simp only [List.getElem?_drop, List.getElem?_map]
 by_cases h : k + i < m
 ·rw [List.getElem?_range h, List.getElem?_range (by omega)]; rfl
 ·rw [List.getElem?_eq_none (by simp; omega), List.getElem?_eq_none (by simp; omega)]; rfl
theorem tailC_inv {c : Ch} {pc : PC} {n : SI} {κ : Ch → R} (h : tailC c pc n κ ∈ D) : ∃ c', κ c' ∈ D ∧ ∀ ρ, RgOk ρ pc.rg → 0 ≤ n.ev ρ → (n.ev ρ).toNat ≤ (c.zs ρ).length → c'.zs ρ = (c.zs ρ).drop (n.ev ρ).toNat := by
 cases c with
 | bs l =>
  obtain ⟨k, rfl, h1⟩ := litN_inv (show litN n (fun n => dropS l n fun l => κ (.bs l)) ∈ D from h)
  obtain ⟨h2, h3⟩ := dropS_inv h1
  refine ⟨_, h2, fun ρ _ _ _ => ?_⟩
  simp only [Ch.zs, SI.ev, List.map_drop]
  rfl
 | fil m v =>
  obtain ⟨e, h1, h2⟩ := mnE_inv (show mnE pc m n (fun m => κ (.fil m v)) ∈ D from h)
  refine ⟨_, h1, fun ρ hr h3 h4 => ?_⟩
  obtain ⟨e1, e2, e3⟩ := h2 ρ hr
  simp only [Ch.zs, List.length_replicate] at h4 ⊢
  rw [List.drop_replicate, e1]
  congr 1
  omega
 | row a o m =>
  obtain ⟨e, h1, h2⟩ := plE_inv (show plE pc o n (fun o => mnE pc m n fun m => κ (.row a o m)) ∈ D from h)
  obtain ⟨e', h1', h2'⟩ := mnE_inv h1
  refine ⟨_, h1', fun ρ hr h3 h4 => ?_⟩
  obtain ⟨e1, e2, e3⟩ := h2 ρ hr
  obtain ⟨f1, f2, f3⟩ := h2' ρ hr
  simp only [Ch.zs, List.length_map, List.length_range] at h4 ⊢
  rw [range_drop, f1, e1, show (m.ev ρ - n.ev ρ).toNat = (m.ev ρ).toNat - (n.ev ρ).toNat by omega]
  apply List.map_congr_left
  intro i _
  congr 1
  omega
theorem dropR_inv : ∀ {cs : List Ch} {a : SI} {pc : PC} {κ : List Ch → PC → R}, dropR cs a pc κ ∈ D → ∃ cs' pc', κ cs' pc' ∈ D ∧ PcExt pc pc' ∧ ∀ ρ, Holds ρ pc' → 0 ≤ a.ev ρ ∧ (a.ev ρ).toNat ≤ (ropeZ ρ cs).length ∧ ropeZ ρ cs' = (ropeZ ρ cs).drop (a.ev ρ).toNat
 | [], a, pc, κ, h => by
  obtain ⟨hz, h1⟩ := brec_inv (show Bool.rec (motive := fun _ => R) (.fail 406) (κ [] pc) (isZ a) ∈ D from h)
  refine ⟨[], pc, h1, .refl _, fun ρ _ => ?_⟩
  rw [isZ_ev hz]
  exact ⟨Int.le_refl _, Nat.zero_le _, rfl⟩
 | c :: cs, a, pc, κ, h => by
  rcases brec_cases (show Bool.rec (motive := fun _ => R) (lenH c fun m => Bool.rec (motive := fun _ => R) (.fail 407) (leD pc m a fun b pc => Bool.rec (motive := fun _ => R) (tailC c pc a fun c => κ (c :: cs) pc) (mnE pc a m fun a => dropR cs a pc κ) b) (nnB pc.rg m && nnB pc.rg a)) (κ (c :: cs) pc) (isZ a) ∈ D from h) with ⟨hz, h1⟩ | ⟨_, h1⟩
  ·refine ⟨_, pc, h1, .refl _, fun ρ _ => ?_⟩
   rw [isZ_ev hz]
   exact ⟨Int.le_refl _, Nat.zero_le _, rfl⟩
  ·obtain ⟨m, h2, hm⟩ := lenH_inv h1
   obtain ⟨hb, h3⟩ := brec_inv h2
   rw [Bool.and_eq_true] at hb
   obtain ⟨b, pc1, h4, x1, hle⟩ := leD_inv h3
   have hrg : ∀ {ρ} {pc2 : PC}, PcExt pc1 pc2 → Holds ρ pc2 → RgOk ρ pc.rg := fun {ρ pc2} x hρ => by
    have := hρ.rg
    rw [x.rg, x1.rg] at this
    exact this
   rcases brec_cases h4 with ⟨rfl, h5⟩ | ⟨rfl, h5⟩
   ·obtain ⟨a', h6, ha⟩ := mnE_inv h5
    obtain ⟨cs', pc2, h7, x2, h8⟩ := dropR_inv h6
    refine ⟨cs', pc2, h7, x1.trans x2, fun ρ hρ => ?_⟩
    obtain ⟨m1, _⟩ := nnB_ok hb.1 (hrg x2 hρ)
    obtain ⟨a1, _⟩ := nnB_ok hb.2 (hrg x2 hρ)
    have hma := (hle ρ (hρ.of_ext x2)).1 rfl
    obtain ⟨e1, _, _⟩ := ha ρ (by rw [x1.rg]; exact hrg x2 hρ)
    obtain ⟨e2, e3, e4⟩ := h8 ρ hρ
    have hl := hm ρ
    rw [e1] at e3 e4
    rw [ropeZ_cons, List.length_append, hl]
    refine ⟨a1, by omega, ?_⟩
    have hd : (c.zs ρ).drop (a.ev ρ).toNat = [] := List.drop_eq_nil_of_le (by rw [hl]; omega)
    rw [e4, List.drop_append, hl, hd, List.nil_append]
    congr 1
    omega
   ·obtain ⟨c', h6, ha⟩ := tailC_inv h5
    refine ⟨_, pc1, h6, x1, fun ρ hρ => ?_⟩
    obtain ⟨m1, _⟩ := nnB_ok hb.1 (hrg (.refl _) hρ)
    obtain ⟨a1, _⟩ := nnB_ok hb.2 (hrg (.refl _) hρ)
    have hma : ¬ m.ev ρ ≤ a.ev ρ := fun hh => by cases (hle ρ hρ).2 hh
    have hl := hm ρ
    have hc := ha ρ hρ.rg a1 (by rw [hl]; omega)
    rw [ropeZ_cons, ropeZ_cons, List.length_append, hl]
    refine ⟨a1, by omega, ?_⟩
    rw [hc, List.drop_append, hl, show (a.ev ρ).toNat - (m.ev ρ).toNat = 0 by omega, List.drop_zero]
theorem nilR_ev {rg : List (Int × Int)} {e : SI} (h : nilR rg e = true) {ρ : Nat → Int} (hr : RgOk ρ rg) : e.ev ρ = 0 := by
 unfold nilR opt1' at h
 cases hx : rngS rg e with
 | none => rw [hx] at h; cases h
 | some x =>
  have h0 := rngS_in hr e x.1 x.2 hx
  rw [hx] at h
  have h : (beqF x.1 (.ofNat 0) && beqF x.2 (.ofNat 0)) = true := h
  simp only [Bool.and_eq_true, beqF_eq, decide_eq_true_eq] at h
  have h1 := h.1
  have h2 := h.2
  simp only [Int.ofNat_eq_natCast] at h1 h2
  omega
theorem takeR_inv : ∀ {cs : List Ch} {a : SI} {pc : PC} {κ : List Ch → PC → R}, takeR cs a pc κ ∈ D → ∃ cs' pc', κ cs' pc' ∈ D ∧ PcExt pc pc' ∧ ∀ ρ, Holds ρ pc' → 0 ≤ a.ev ρ ∧ (a.ev ρ).toNat ≤ (ropeZ ρ cs).length ∧ ropeZ ρ cs' = (ropeZ ρ cs).take (a.ev ρ).toNat
 | [], a, pc, κ, h => by
  obtain ⟨hz, h1⟩ := brec_inv (show Bool.rec (motive := fun _ => R) (.fail 408) (κ [] pc) (isZ a || nilR pc.rg a) ∈ D from h)
  refine ⟨[], pc, h1, .refl _, fun ρ hρ => ?_⟩
  rw [show a.ev ρ = 0 from (Bool.or_eq_true_iff.1 hz).elim (fun h => isZ_ev h ρ) fun h => nilR_ev h hρ.rg]
  exact ⟨Int.le_refl _, Nat.zero_le _, rfl⟩
 | c :: cs, a, pc, κ, h => by
  rcases brec_cases (show Bool.rec (motive := fun _ => R) (lenH c fun m => Bool.rec (motive := fun _ => R) (.fail 409) (leD pc m a fun b pc => Bool.rec (motive := fun _ => R) (cutC c a fun c => κ [c] pc) (mnE pc a m fun n => takeR cs n pc fun r pc => κ (c :: r) pc) b) (nnB pc.rg m && nnB pc.rg a)) (κ [] pc) (isZ a) ∈ D from h) with ⟨hz, h1⟩ | ⟨_, h1⟩
  ·refine ⟨_, pc, h1, .refl _, fun ρ _ => ?_⟩
   rw [isZ_ev hz]
   exact ⟨Int.le_refl _, Nat.zero_le _, rfl⟩
  ·obtain ⟨m, h2, hm⟩ := lenH_inv h1
   obtain ⟨hb, h3⟩ := brec_inv h2
   rw [Bool.and_eq_true] at hb
   obtain ⟨b, pc1, h4, x1, hle⟩ := leD_inv h3
   have hrg : ∀ {ρ} {pc2 : PC}, PcExt pc1 pc2 → Holds ρ pc2 → RgOk ρ pc.rg := fun {ρ pc2} x hρ => by
    have := hρ.rg
    rw [x.rg, x1.rg] at this
    exact this
   rcases brec_cases h4 with ⟨rfl, h5⟩ | ⟨rfl, h5⟩
   ·obtain ⟨a', h6, ha⟩ := mnE_inv h5
    obtain ⟨cs', pc2, h7, x2, h8⟩ := takeR_inv h6
    refine ⟨_, pc2, h7, x1.trans x2, fun ρ hρ => ?_⟩
    obtain ⟨m1, _⟩ := nnB_ok hb.1 (hrg x2 hρ)
    obtain ⟨a1, _⟩ := nnB_ok hb.2 (hrg x2 hρ)
    have hma := (hle ρ (hρ.of_ext x2)).1 rfl
    obtain ⟨e1, _, _⟩ := ha ρ (by rw [x1.rg]; exact hrg x2 hρ)
    obtain ⟨e2, e3, e4⟩ := h8 ρ hρ
    have hl := hm ρ
    rw [e1] at e3 e4
    rw [ropeZ_cons, ropeZ_cons, List.length_append, hl]
    refine ⟨a1, by omega, ?_⟩
    have hd : (c.zs ρ).take (a.ev ρ).toNat = c.zs ρ := List.take_of_length_le (by rw [hl]; omega)
    rw [e4, List.take_append, hl, hd]
    congr 2
    omega
   ·obtain ⟨c', h6, ha⟩ := cutC_inv h5
    refine ⟨_, pc1, h6, x1, fun ρ hρ => ?_⟩
    obtain ⟨m1, _⟩ := nnB_ok hb.1 (hrg (.refl _) hρ)
    obtain ⟨a1, _⟩ := nnB_ok hb.2 (hrg (.refl _) hρ)
    have hma : ¬ m.ev ρ ≤ a.ev ρ := fun hh => by cases (hle ρ hρ).2 hh
    have hl := hm ρ
    have hc := ha ρ a1 (by rw [hl]; omega)
    rw [ropeZ_cons, ropeZ_cons, ropeZ_nil, List.append_nil, List.length_append, hl]
    refine ⟨a1, by omega, ?_⟩
    rw [hc, List.take_append, hl, show (a.ev ρ).toNat - (m.ev ρ).toNat = 0 by omega, List.take_zero, List.append_nil]
end
theorem byteS_inv {D : Dn} : ∀ {l : List AV} {κ : List SI → R}, byteS l κ ∈ D → ∃ es, κ es ∈ D ∧ l = es.map fun e => .int .u8 e
 | [], κ, h => ⟨[], h, rfl⟩
 | v :: l, κ, h => by
  obtain ⟨k, e, rfl, h1⟩ := intV_inv (show intV v (nat_lit 410) (fun k e => Bool.rec (motive := fun _ => R) (.fail 411) (byteS l fun r => κ (e :: r)) (kindEq k .u8)) ∈ D from h)
  obtain ⟨hk, h2⟩ := brec_inv h1
  obtain rfl := kindEq_of hk
  obtain ⟨es, h3, rfl⟩ := byteS_inv h2
  exact ⟨e :: es, h3, rfl⟩
theorem defU_some {d : Option AV} {e : SI} (h : defU d = some e) : d = some (.int .u8 e) := by
 unfold defU at h
 split at h
 ·cases h; rfl
 ·cases h
theorem nilT_nil {c : Tr AV} (h : nilT c = true) : c = .nil := by
 cases c with
 | nil => rfl
 | node _ _ _ => cases h
def BytesAt (w : World) (b o : Nat) (zs : List Int) : Prop := ∀ i z, zs[i]? = some z → w.cell? ⟨b, o + i, none⟩ = some (.int .u8 z)
theorem cellR_inv {D : Dn} {c : Tr AV} {d : Option AV} {off len : Nat} {κ : List Ch → R} (h : cellR c d off len κ ∈ D) : ∃ cs, κ cs ∈ D ∧ (∀ ρ, (ropeZ ρ cs).length = len) ∧ ∀ {P : Program} {φ : List Pl} {ρ : Nat → Int} {w : World} {p : Pl} {arr : Array Value} {fz : Nat × Nat} {n : Nat} {T : TypeId} {row : Bool}, CelOk P φ ρ w p arr fz n c d T row → off + len ≤ n → BytesAt w p.blk (p.sh + off) (ropeZ ρ cs) := by
 have gen : ∀ {κ : List Ch → R}, (ldN c d off len fun l => byteS l fun es => κ [.bs es]) ∈ D → ∃ cs, κ cs ∈ D ∧ (∀ ρ, (ropeZ ρ cs).length = len) ∧ ∀ {P : Program} {φ : List Pl} {ρ : Nat → Int} {w : World} {p : Pl} {arr : Array Value} {fz : Nat × Nat} {n : Nat} {T : TypeId} {row : Bool}, CelOk P φ ρ w p arr fz n c d T row → off + len ≤ n → BytesAt w p.blk (p.sh + off) (ropeZ ρ cs) := by
  intro κ h
  obtain ⟨l, hl, h1, hcl⟩ := ldN_inv h
  obtain ⟨es, h2, rfl⟩ := byteS_inv h1
  rw [List.length_map] at hl
  refine ⟨_, h2, fun ρ => by simp [ropeZ_cons, ropeZ_nil, Ch.zs, hl], fun {P φ ρ w p arr fz n T row} hc hle i z hz => ?_⟩
  rw [ropeZ_cons, ropeZ_nil, List.append_nil] at hz
  simp only [Ch.zs, List.getElem?_map, Option.map_eq_some_iff] at hz
  obtain ⟨e, he, rfl⟩ := hz
  have hi : i < len := by
   have := (List.getElem?_eq_some_iff.1 he).1
   omega
  obtain ⟨v, x, h3, h4, h5, _⟩ := hc.cell (off + i) (by omega)
  have h6 := hcl i hi
  rw [List.getElem?_map, he, h3] at h6
  cases h6
  simp only [conc, Option.some.injEq] at h4
  subst h4
  simp only [World.cell?, hc.blk]
  show arr[p.sh + off + i]? = _
  rw [Nat.add_assoc]
  exact h5
 unfold cellR at h
 split at h
 ·rename_i e hd
  rcases brec_cases h with ⟨hn, h1⟩ | ⟨_, h1⟩
  ·refine ⟨_, h1, fun ρ => by simp [ropeZ_cons, ropeZ_nil, Ch.zs, natS, SI.ev], fun {P φ ρ w p arr fz n T row} hc hle i z hz => ?_⟩
   rw [ropeZ_cons, ropeZ_nil, List.append_nil] at hz
   simp only [Ch.zs, natS, SI.ev] at hz
   have hi := (List.getElem?_eq_some_iff.1 hz).1
   simp only [List.length_replicate] at hi
   have hi : i < len := hi
   rw [List.getElem?_replicate_of_lt (by simpa using hi)] at hz
   cases hz
   obtain ⟨v, x, h3, h4, h5, _⟩ := hc.cell (off + i) (by omega)
   have hce : celA c d (off + i) = some (.int .u8 e) := by
    rw [nilT_nil hn, defU_some hd]
    unfold celA
    rw [Tr.get_nil]
   rw [hce] at h3
   cases h3
   simp only [conc, Option.some.injEq] at h4
   subst h4
   simp only [World.cell?, hc.blk]
   show arr[p.sh + off + i]? = _
   rw [Nat.add_assoc]
   exact h5
  ·exact gen h1
 ·exact gen h
theorem readO_inv {D : Dn} {o : AObj} {pc : PC} {off len : SI} {κ : List Ch → PC → R} (h : readO o pc off len κ ∈ D) : ∃ cs pc', κ cs pc' ∈ D ∧ PcExt pc pc' ∧ live o = true ∧ ∀ {P : Program} {φ : List Pl} {ρ : Nat → Int} {w : World} {id : Nat} {p : Pl}, Holds ρ pc' → ObjOk P φ ρ w id o → φ[id]? = some p →
  0 ≤ off.ev ρ ∧ 0 ≤ len.ev ρ ∧ p.sh + (off.ev ρ).toNat + (len.ev ρ).toNat ≤ p.sz ∧ (ropeZ ρ cs).length = (len.ev ρ).toNat ∧ BytesAt w p.blk (p.sh + (off.ev ρ).toNat) (ropeZ ρ cs) := by
 unfold readO at h
 split at h
 ·rename_i ws T r
  obtain ⟨cs1, pc1, h1, x1, h2⟩ := dropR_inv h
  obtain ⟨cs2, pc2, h3, x2, h4⟩ := takeR_inv h1
  refine ⟨cs2, pc2, h3, x1.trans x2, rfl, fun {P φ ρ w id p} hρ ho hp => ?_⟩
  obtain ⟨a1, a2, a3⟩ := h2 ρ (hρ.of_ext x2)
  obtain ⟨b1, b2, b3⟩ := h4 ρ hρ
  obtain ⟨p', arr, fz, hp', hc⟩ := ho
  rw [hp] at hp'; cases hp'
  rw [a3, List.length_drop] at b2
  have hle := hc.le
  refine ⟨a1, b1, by omega, ?_, fun i z hz => ?_⟩
  ·rw [b3, a3, List.length_take, List.length_drop]; omega
  ·rw [b3, a3, List.getElem?_take] at hz
   split at hz
   ·rw [List.getElem?_drop] at hz
    have := hc.cell _ _ hz
    simp only [World.cell?, hc.blk]
    show arr[p.sh + (off.ev ρ).toNat + i]? = _
    rw [Nat.add_assoc]
    exact this
   ·cases hz
 ·rename_i n c d T r
  obtain ⟨o1, rfl, h1⟩ := litN_inv h
  obtain ⟨l1, rfl, h2⟩ := litN_inv h1
  obtain ⟨hle, h3⟩ := brec_inv h2
  rw [natBle] at hle
  have hle : o1 + l1 ≤ n := of_decide_eq_true hle
  obtain ⟨cs, h4, hlen, h5⟩ := cellR_inv h3
  refine ⟨cs, pc, h4, .refl _, rfl, fun {P φ ρ w id p} hρ ho hp => ?_⟩
  obtain ⟨p', arr, fz, hp', hc⟩ := ho
  rw [hp] at hp'; cases hp'
  have h6 := hc.le
  exact ⟨Int.natCast_nonneg _, Int.natCast_nonneg _, by show p.sh + o1 + l1 ≤ p.sz; omega, hlen ρ, h5 hc hle⟩
 ·cases h
theorem room1 {p : Pl} (he : p.es = 1) (off : Nat) : p.room off = p.sz - (p.sh + off) := by
 unfold Pl.room
 rw [he, Nat.div_one]
theorem ssl_none {φ : List Pl} {ρ : Nat → Int} {id : Nat} {o0 off len : SI} {p : Pl} (hp : φ[id]? = some p) : conc φ ρ (.ssl id o0 off len none) = some (if (len.ev ρ).toNat = 0 ∧ p.room (off.ev ρ).toNat = 0 then .slice (some ⟨p.blk, p.sh + (o0.ev ρ).toNat, none⟩) 0 0 else .slice (some ⟨p.blk, p.sh + (off.ev ρ).toNat, none⟩) (len.ev ρ).toNat (p.room (off.ev ρ).toNat)) := by
 simp only [conc, hp, Option.map_some]
theorem ssl_some {φ : List Pl} {ρ : Nat → Int} {id : Nat} {o0 off len c : SI} {p : Pl} (hp : φ[id]? = some p) : conc φ ρ (.ssl id o0 off len (some c)) = some (.slice (some ⟨p.blk, p.sh + (off.ev ρ).toNat, none⟩) (len.ev ρ).toNat (c.ev ρ).toNat) := by
 simp only [conc, hp, Option.map_some]
theorem fsl_some {φ : List Pl} {ρ : Nat → Int} {a : Nat} {o0 off len : SI} {v : Value} (h : conc φ ρ (.fsl a o0 off len) = some v) : ρ (fMark a) = 1 ∧ 0 ≤ ρ a ∧ (ρ a).toNat ≤ (ρ (fCap a)).toNat ∧ v = .slice (some ⟨(ρ (fBlk a)).toNat, (ρ (fOff a)).toNat + (if (ρ (fCap a)).toNat ≤ (off.ev ρ).toNat then (o0.ev ρ).toNat else (off.ev ρ).toNat), none⟩) (len.ev ρ).toNat ((ρ (fCap a)).toNat - (off.ev ρ).toNat) := by
 simp only [conc] at h
 split at h
 ·rename_i hc
  cases h
  exact ⟨hc.1, hc.2.1, hc.2.2, rfl⟩
 ·cases h
theorem fsl_mk {φ : List Pl} {ρ : Nat → Int} {a : Nat} (o0 off len : SI) (h1 : ρ (fMark a) = 1) (h2 : 0 ≤ ρ a) (h3 : (ρ a).toNat ≤ (ρ (fCap a)).toNat) : conc φ ρ (.fsl a o0 off len) = some (.slice (some ⟨(ρ (fBlk a)).toNat, (ρ (fOff a)).toNat + (if (ρ (fCap a)).toNat ≤ (off.ev ρ).toNat then (o0.ev ρ).toNat else (off.ev ρ).toNat), none⟩) (len.ev ρ).toNat ((ρ (fCap a)).toNat - (off.ev ρ).toNat)) := by
 simp only [conc, h1, h2, h3, and_self, if_true]
def lenVal : Value → Nat
 | .slice _ n _ => n
 | _ => 0
theorem osl0_ev {rg : List (Int × Int)} {x : AV} (h : osl0 rg x = true) : ∃ p k c, x = .osl p k c ∧ ∀ {φ : List Pl} {ρ : Nat → Int} {v : Value}, RgOk ρ rg → conc φ ρ x = some v → v = .slice (adrL ρ p) 0 (ρ c).toNat := by
 unfold osl0 at h
 split at h
 ·rename_i p k c
  refine ⟨p, k, c, rfl, fun {φ ρ v} hr hv => ?_⟩
  have := nilR_ev h hr
  have this : ρ k = 0 := this
  simp only [conc, Option.some.injEq, this] at hv
  exact hv.symm
 ·cases h
theorem lenS_inv {D : Dn} {pc : PC} {x : AV} {κ : SI → R} (hD : lenS pc x κ ∈ D) : ∃ e, κ e ∈ D ∧ ∀ {φ ρ v}, RgOk ρ pc.rg → conc φ ρ x = some v → 0 ≤ e.ev ρ ∧ ∃ a n c, v = .slice a n c ∧ n = (e.ev ρ).toNat := by
 unfold lenS at hD
 split at hD
 ·refine ⟨_, hD, fun {φ ρ v} hr hv => ?_⟩
  simp only [conc, Option.map_eq_some_iff] at hv
  obtain ⟨p, _, rfl⟩ := hv
  exact ⟨Int.natCast_nonneg _, _, _, _, rfl, rfl⟩
 ·rename_i id o0 off len cap
  obtain ⟨hb, h1⟩ := brec_inv hD
  refine ⟨_, h1, fun {φ ρ v} hr hv => ⟨(nnB_ok hb hr).1, ?_⟩⟩
  have hv0 := hv
  simp only [conc, Option.map_eq_some_iff] at hv
  obtain ⟨p, hp, _⟩ := hv
  cases cap with
  | some c => rw [ssl_some hp] at hv0; cases hv0; exact ⟨_, _, _, rfl, rfl⟩
  | none =>
   rw [ssl_none hp] at hv0
   cases hv0
   split
   ·rename_i hz
    exact ⟨_, _, _, rfl, hz.1.symm⟩
   ·exact ⟨_, _, _, rfl, rfl⟩
 ·rename_i a o0 off len
  obtain ⟨hb, h1⟩ := brec_inv hD
  refine ⟨_, h1, fun {φ ρ v} hr hv => ⟨(nnB_ok hb hr).1, ?_⟩⟩
  obtain ⟨_, _, _, rfl⟩ := fsl_some hv
  exact ⟨_, _, _, rfl, rfl⟩
 ·refine ⟨_, hD, fun {φ ρ v} hr hv => ?_⟩
  simp only [conc, Option.some.injEq] at hv
  subst hv
  exact ⟨Int.le_refl _, _, _, _, rfl, rfl⟩
 ·refine ⟨_, hD, fun {φ ρ v} hr hv => ?_⟩
  simp only [conc, Option.map_eq_some_iff] at hv
  obtain ⟨p, _, rfl⟩ := hv
  refine ⟨Int.le_refl _, ?_⟩
  split
  ·exact ⟨_, _, _, rfl, rfl⟩
  ·exact ⟨_, _, _, rfl, rfl⟩
 ·refine ⟨_, hD, fun {φ ρ v} hr hv => ?_⟩
  simp only [conc, Option.map_eq_some_iff] at hv
  obtain ⟨p, _, rfl⟩ := hv
  exact ⟨Int.le_refl _, _, _, _, rfl, rfl⟩
 ·obtain ⟨hb, h1⟩ := brec_inv hD
  refine ⟨_, h1, fun {φ ρ v} hr hv => ?_⟩
  obtain ⟨p, k, c, e, h2⟩ := osl0_ev hb
  cases e
  rw [h2 hr hv]
  exact ⟨Int.le_refl _, _, _, _, rfl, rfl⟩
 ·cases hD
end Go.Proofs.YtooebogidjejoaaGreat
namespace Go.Proofs.YtooebogidjejoaaGreat
open Go
section
variable {P : Program} {D : Dn} {h : Tr AObj}
theorem sliceBound_run {w : World} {k : IntKind} {n y : Nat} {c : BoundsCode} (h : n ≤ y) : (Instr.sliceBound (.int k n) y c).run P w = .ok n w := by
 have : (n : Int) ≤ (y : Int) := by omega
 simp [Instr.sliceBound, Sem.run_bind, asIntOf, this]
theorem sliceBounds_run {w : World} {isS : Bool} {len cap l hi : Nat} {lo h' : Option Value} (h1 : (lo = none ∧ l = 0) ∨ ∃ k, lo = some (.int k l)) (h2 : (h' = none ∧ hi = len) ∨ ∃ k, h' = some (.int k hi)) (hl : l ≤ hi) (hh : hi ≤ cap) :
  (Instr.sliceBounds isS len cap lo h' none).run P w = .ok (l, hi, cap) w := by
 unfold Instr.sliceBounds
 rcases h1 with ⟨rfl, rfl⟩ | ⟨k, rfl⟩ <;> rcases h2 with ⟨rfl, rfl⟩ | ⟨k', rfl⟩ <;> simp [Sem.run_bind, sliceBound_run, hl, hh]
theorem sliceBounds_run3 {w : World} {len cap l hi m : Nat} {k k' : IntKind} {lo : Option Value} (h1 : (lo = none ∧ l = 0) ∨ ∃ k, lo = some (.int k l)) (hl : l ≤ hi) (hh : hi ≤ m) (hm : m ≤ cap) :
  (Instr.sliceBounds true len cap lo (some (.int k hi)) (some (.int k' m))).run P w = .ok (l, hi, m) w := by
 unfold Instr.sliceBounds
 rcases h1 with ⟨rfl, rfl⟩ | ⟨k, rfl⟩ <;> simp [Sem.run_bind, sliceBound_run, hl, hh, hm]
theorem optNat_inv {v : Option AV} {d : Nat} {κ : Nat → R} (hD : optNat v d κ ∈ D) : ∃ n, κ n ∈ D ∧ ((v = none ∧ n = d) ∨ ∃ k, v = some (.int k (.lit (Int.ofNat n)))) := by
 unfold optNat at hD
 split at hD
 ·obtain ⟨k, n, rfl, h1⟩ := asNat_inv hD
  exact ⟨n, h1, .inr ⟨k, rfl⟩⟩
 ·exact ⟨_, hD, .inl ⟨rfl, rfl⟩⟩
inductive OptOk (φ : List Pl) (ρ : Nat → Int) : Option AV → Option Value → Prop
 | no : OptOk φ ρ none none
 | yes {v : AV} {x : Value} (h : conc φ ρ v = some x) : OptOk φ ρ (some v) (some x)
theorem OptOk.bound {φ : List Pl} {ρ : Nat → Int} {v : Option AV} {x : Option Value} {n d : Nat} (ho : OptOk φ ρ v x) (hn : (v = none ∧ n = d) ∨ ∃ k, v = some (.int k (.lit (Int.ofNat n)))) : (x = none ∧ n = d) ∨ ∃ k, x = some (.int k n) := by
 cases ho with
 | no =>
  rcases hn with ⟨_, rfl⟩ | ⟨k, h⟩
  ·exact .inl ⟨rfl, rfl⟩
  ·cases h
 | yes h =>
  rcases hn with ⟨h', _⟩ | ⟨k, h'⟩
  ·cases h'
  ·cases h'
   simp only [conc, SI.ev, Option.some.injEq] at h
   exact .inr ⟨k, by rw [← h]; rfl⟩
theorem room_sub {p : Pl} {off l : Nat} : p.room (off + l * p.es) = p.room off - l := by
 unfold Pl.room
 rw [show p.sz - (p.sh + (off + l * p.es)) = (p.sz - (p.sh + off)) - p.es * l by rw [Nat.mul_comm]; omega]
 rcases Nat.lt_or_ge (p.sz - (p.sh + off)) (p.es * l) with h | h
 ·have h1 : (p.sz - (p.sh + off)) / p.es ≤ l := Nat.div_le_of_le_mul (by omega)
  rw [show p.sz - (p.sh + off) - p.es * l = 0 by omega, Nat.zero_div]; omega
 ·exact Nat.sub_mul_div _ _ _ 
theorem roomK_inv {e s id off : Nat} {cap : Option Nat} {κ : Nat → Bool → R} (hs : sizeA P e = some s) (hD : roomK h e s id off cap κ ∈ D) :
  ∃ c known, κ c known ∈ D ∧ ((known = true ∧ cap = some c) ∨ (known = false ∧ cap = none ∧ ∀ {φ ρ w p}, Hp P φ ρ h w → φ[id]? = some p → p.es = s ∧ c ≤ p.room off)) := by
 unfold roomK at hD
 split at hD
 ·exact ⟨_, _, hD, .inl ⟨rfl, rfl⟩⟩
 ·obtain ⟨n, c, d, T, r, hg, h1⟩ := objK_inv hD
  obtain ⟨hb, h2⟩ := brec_inv h1
  simp only [Bool.and_eq_true, natBeq, decide_eq_true_eq] at hb
  obtain ⟨rfl, rfl⟩ := hb
  refine ⟨_, _, h2, .inr ⟨rfl, rfl, fun {φ ρ w p} hp hpl => ?_⟩⟩
  obtain ⟨p', arr, fz, hp', hc⟩ := hp.obj _ _ hg
  rw [hpl] at hp'
  cases hp'
  obtain ⟨he, he0⟩ := hc.es rfl
  rw [hs] at he
  cases he
  refine ⟨rfl, ?_⟩
  unfold Pl.room
  exact Nat.div_le_div_right (by have := hc.le; show n - off ≤ _; omega)
theorem sliceK_sound {id off s l hi c : Nat} {known : Bool} {κ : AV → R} (hD : sliceK κ id off s l hi c known ∈ D) :
  l ≤ hi ∧ hi ≤ c ∧ ∃ u, κ u ∈ D ∧ ∀ {φ : List Pl} {ρ p cap}, φ[id]? = some p → ((known = true ∧ cap = c) ∨ (known = false ∧ p.es = s ∧ c ≤ p.room off ∧ cap = p.room off)) →
   conc φ ρ u = some (.slice (some (if cap = l then ⟨p.blk, p.sh + off, none⟩ else (⟨p.blk, p.sh + off, none⟩ : Addr).add (l * s))) (hi - l) (cap - l)) := by
 obtain ⟨hb, h1⟩ := brec_inv hD
 simp only [Bool.and_eq_true, natBle, decide_eq_true_eq] at hb
 refine ⟨hb.1, hb.2, ?_⟩
 rcases brec_cases h1 with ⟨rfl, h2⟩ | ⟨rfl, h2⟩
 ·unfold slK at h2
  simp only [forceN_eq] at h2
  refine ⟨_, h2, fun {φ ρ p cap} hp hc => ?_⟩
  rcases hc with ⟨_, rfl⟩ | ⟨h, _⟩
  ·simp only [conc, hp, Option.map_some, Option.getD_some, Option.some.injEq, Value.slice.injEq]
   refine ⟨?_, rfl, rfl⟩
   unfold atF
   rw [natBeq]
   by_cases e : cap = l
   ·simp [e]
   ·simp [e, add_plain, Nat.add_assoc]
  ·cases h
 ·rcases brec_cases h2 with ⟨e, h3⟩ | ⟨e, h3⟩
  ·rw [natBeq] at e
   have e := of_decide_eq_true e
   subst e
   simp only [forceN_eq] at h3
   refine ⟨_, h3, fun {φ ρ p cap} hp hc => ?_⟩
   rcases hc with ⟨h, _⟩ | ⟨_, rfl, hle, rfl⟩
   ·cases h
   ·have h0 : hi - l = 0 := by omega
    simp only [conc, hp, Option.map_some]
    rw [show off.add (l.mul p.es) = off + l * p.es from rfl, room_sub, h0]
    by_cases e2 : p.room off = l
    ·simp [e2]
    ·rw [if_neg (by omega), if_neg e2, add_plain, Nat.add_assoc]
  ·rw [natBeq] at e
   have e := of_decide_eq_false e
   unfold slK at h3
   simp only [forceN_eq] at h3
   refine ⟨_, h3, fun {φ ρ p cap} hp hc => ?_⟩
   rcases hc with ⟨h, _⟩ | ⟨_, rfl, hle, rfl⟩
   ·cases h
   ·simp only [conc, hp, Option.map_some, Option.getD_none]
    rw [show off.add (l.mul p.es) = off + l * p.es from rfl, room_sub, if_neg (by omega), add_plain, Nat.add_assoc]
    rfl
theorem slice_sound {T : TypeId} {x : AV} {lo hi mx : Option AV} {κ : AV → R} (hD : sliceA P T h x lo hi mx κ ∈ D) :
  ∃ u, κ u ∈ D ∧ ∀ {φ ρ w a lo' hi' mx'}, Hp P φ ρ h w → conc φ ρ x = some a → OptOk φ ρ lo lo' → OptOk φ ρ hi hi' → OptOk φ ρ mx mx' → RunV P φ ρ w (Instr.sliceAt T a lo' hi' mx') u := by
 obtain ⟨d, hd, h1⟩ := optK_inv hD
 split at h1
 ·rename_i mv
  split at h1
  ·rename_i e s
   split at h1
   ·rename_i id off len cap
    obtain ⟨hu, hs⟩ := ixOf_sli hd
    obtain ⟨l, h2, hl⟩ := optNat_inv h1
    obtain ⟨hv, rfl, h3⟩ := optK_inv h2
    obtain ⟨kh, hi0, rfl, h4⟩ := asNat_inv h3
    obtain ⟨km, m, rfl, h5⟩ := asNat_inv h4
    obtain ⟨c, known, h6, hc⟩ := roomK_inv hs h5
    obtain ⟨hb, h7⟩ := brec_inv h6
    rw [natBle, decide_eq_true_eq] at hb
    obtain ⟨q1, q2, u, h8, hu8⟩ := sliceK_sound h7
    refine ⟨u, h8, fun {φ ρ w a lo' hi' mx'} hp ha ho1 ho2 ho3 => ?_⟩
    obtain ⟨p, hpl, rfl⟩ := conc_sl ha
    cases ho2 with
    | yes e2 =>
    cases ho3 with
    | yes e3 =>
    simp only [conc, SI.ev, Option.some.injEq] at e2 e3
    subst e2; subst e3
    have hm : m ≤ cap.getD (p.room off) := by
     rcases hc with ⟨rfl, rfl⟩ | ⟨rfl, rfl, hroom⟩
     ·exact hb
     ·exact Nat.le_trans hb (hroom hp hpl).2
    refine ⟨_, hu8 hpl (.inl ⟨rfl, rfl⟩), ?_⟩
    have hbs := sliceBounds_run3 (P := P) (w := w) (len := len) (k := kh) (k' := km) (ho1.bound hl) q1 q2 hm
    simp only [Instr.sliceAt, Sem.run_bind, run_underlying hu, Result.andThen_ok, Instr.slice, Int.ofNat_eq_natCast, hbs, run_size hs, Sem.run_pure]
    by_cases em : m = l <;> simp [em]
   ·rename_i id off0 off
    obtain ⟨hu, hs⟩ := ixOf_sli hd
    obtain ⟨l, h2, hl⟩ := optNat_inv h1
    obtain ⟨hv, rfl, h3⟩ := optK_inv h2
    obtain ⟨kh, hi0, rfl, h4⟩ := asNat_inv h3
    obtain ⟨km, m, rfl, h5⟩ := asNat_inv h4
    obtain ⟨hb, h6⟩ := brec_inv h5
    simp only [Bool.and_eq_true, natBeq, decide_eq_true_eq] at hb
    obtain ⟨rfl, rfl, rfl⟩ := hb
    refine ⟨_, h6, fun {φ ρ w a lo' hi' mx'} hp ha ho1 ho2 ho3 => ?_⟩
    cases ho2 with
    | yes e2 =>
    cases ho3 with
    | yes e3 =>
    simp only [conc, SI.ev, Option.some.injEq] at e2 e3
    subst e2; subst e3
    simp only [conc, Option.map_eq_some_iff] at ha
    obtain ⟨p, hpl, rfl⟩ := ha
    refine ⟨_, by simp only [conc, hpl, Option.map_some]; rfl, ?_⟩
    by_cases hr : p.room off = 0
    ·simp only [hr, if_true]
     have hbs := sliceBounds_run3 (P := P) (w := w) (len := 0) (cap := 0) (k := kh) (k' := km) (ho1.bound hl) (Nat.le_refl 0) (Nat.le_refl 0) (Nat.zero_le _)
     simp only [Instr.sliceAt, Sem.run_bind, run_underlying hu, Result.andThen_ok, Instr.slice, Int.ofNat_eq_natCast, hbs, run_size hs, Sem.run_pure]
     simp
    ·simp only [if_neg hr]
     have hbs := sliceBounds_run3 (P := P) (w := w) (len := 0) (cap := p.room off) (k := kh) (k' := km) (ho1.bound hl) (Nat.le_refl 0) (Nat.le_refl 0) (Nat.zero_le _)
     simp only [Instr.sliceAt, Sem.run_bind, run_underlying hu, Result.andThen_ok, Instr.slice, Int.ofNat_eq_natCast, hbs, run_size hs, Sem.run_pure]
     simp
   ·rename_i id off0 off
    obtain ⟨hu, hs⟩ := ixOf_sli hd
    obtain ⟨l, h2, hl⟩ := optNat_inv h1
    obtain ⟨hv, rfl, h3⟩ := optK_inv h2
    obtain ⟨kh, hi0, rfl, h4⟩ := asNat_inv h3
    obtain ⟨km, m, rfl, h5⟩ := asNat_inv h4
    obtain ⟨hb, h6⟩ := brec_inv h5
    simp only [Bool.and_eq_true, natBeq, decide_eq_true_eq] at hb
    obtain ⟨rfl, rfl, rfl⟩ := hb
    refine ⟨_, h6, fun {φ ρ w a lo' hi' mx'} hp ha ho1 ho2 ho3 => ?_⟩
    cases ho2 with
    | yes e2 =>
    cases ho3 with
    | yes e3 =>
    simp only [conc, SI.ev, Option.some.injEq] at e2 e3
    subst e2; subst e3
    simp only [conc, Option.map_eq_some_iff] at ha
    obtain ⟨p, hpl, rfl⟩ := ha
    refine ⟨_, by simp only [conc, hpl, Option.map_some]; rfl, ?_⟩
    have hbs := sliceBounds_run3 (P := P) (w := w) (len := 0) (cap := 0) (k := kh) (k' := km) (ho1.bound hl) (Nat.le_refl 0) (Nat.le_refl 0) (Nat.zero_le _)
    simp only [Instr.sliceAt, Sem.run_bind, run_underlying hu, Result.andThen_ok, Instr.slice, Int.ofNat_eq_natCast, hbs, run_size hs, Sem.run_pure]
    simp
   ·cases h1
  ·cases h1
 ·split at h1
  ·rename_i n e s
   split at h1
   ·rename_i id off
    obtain ⟨hu, hs⟩ := ixOf_arr hd
    obtain ⟨l, h2, hl⟩ := optNat_inv h1
    obtain ⟨hi0, h3, hh⟩ := optNat_inv h2
    obtain ⟨c, known, h4, hc⟩ := roomK_inv hs h3
    obtain ⟨q1, q2, u, h5, hu5⟩ := sliceK_sound h4
    refine ⟨u, h5, fun {φ ρ w a lo' hi' mx'} hp ha ho1 ho2 ho3 => ?_⟩
    obtain ⟨p, hpl, rfl⟩ := conc_ptr ha
    cases ho3
    rcases hc with ⟨rfl, e⟩ | ⟨_, e, _⟩ <;> cases e
    refine ⟨_, hu5 hpl (.inl ⟨rfl, rfl⟩), ?_⟩
    simp only [Instr.sliceAt, Sem.run_bind, run_underlying hu, Result.andThen_ok, Instr.sureAddr, Sem.run_pure, sliceBounds_run (ho1.bound hl) (ho2.bound hh) q1 q2, run_size hs]
   ·cases h1
  ·rename_i e s
   split at h1
   ·rename_i id off len cap
    obtain ⟨hu, hs⟩ := ixOf_sli hd
    obtain ⟨l, h2, hl⟩ := optNat_inv h1
    obtain ⟨hi0, h3, hh⟩ := optNat_inv h2
    obtain ⟨c, known, h4, hc⟩ := roomK_inv hs h3
    obtain ⟨q1, q2, u, h5, hu5⟩ := sliceK_sound h4
    refine ⟨u, h5, fun {φ ρ w a lo' hi' mx'} hp ha ho1 ho2 ho3 => ?_⟩
    obtain ⟨p, hpl, rfl⟩ := conc_sl ha
    cases ho3
    have fin : ∀ m, hi0 ≤ m → conc φ ρ u = some (.slice (some (if m = l then ⟨p.blk, p.sh + off, none⟩ else (⟨p.blk, p.sh + off, none⟩ : Addr).add (l * s))) (hi0 - l) (m - l)) →
      RunV P φ ρ w (Instr.sliceAt T (.slice (some ⟨p.blk, p.sh + off, none⟩) len m) lo' hi' none) u := fun m hm hcu => by
     refine ⟨_, hcu, ?_⟩
     simp only [Instr.sliceAt, Sem.run_bind, run_underlying hu, Result.andThen_ok, Instr.slice, sliceBounds_run (ho1.bound hl) (ho2.bound hh) q1 hm, run_size hs, Sem.run_pure]
     by_cases em : m = l <;> simp [em]
    rcases hc with ⟨rfl, rfl⟩ | ⟨rfl, rfl, hroom⟩
    ·exact fin c q2 (hu5 hpl (.inl ⟨rfl, rfl⟩))
    ·obtain ⟨r1, r2⟩ := hroom hp hpl
     exact fin (p.room off) (Nat.le_trans q2 r2) (hu5 hpl (.inr ⟨rfl, r1, r2, rfl⟩))
   ·obtain ⟨hu, hs⟩ := ixOf_sli hd
    obtain ⟨l, h2, hl⟩ := optNat_inv h1
    obtain ⟨hi0, h3, hh⟩ := optNat_inv h2
    obtain ⟨hb, h4⟩ := brec_inv h3
    simp only [Bool.and_eq_true, natBeq, decide_eq_true_eq] at hb
    obtain ⟨e1, e2⟩ := hb
    have e1 : l = 0 := e1
    have e2 : hi0 = 0 := e2
    subst e1; subst e2
    refine ⟨_, h4, fun {φ ρ w a lo' hi' mx'} hp ha ho1 ho2 ho3 => ?_⟩
    simp only [conc, Option.some.injEq] at ha
    subst ha
    cases ho3
    rename_i p0
    cases p0 <;> refine ⟨_, rfl, ?_⟩ <;>
     simp only [Instr.sliceAt, Sem.run_bind, run_underlying hu, Result.andThen_ok, Instr.slice, sliceBounds_run (ho1.bound hl) (ho2.bound hh) (Nat.le_refl 0) (Nat.le_refl 0), run_size hs, Sem.run_pure] <;>
     simp
   ·obtain ⟨hu, hs⟩ := ixOf_sli hd
    obtain ⟨l, h2, hl⟩ := optNat_inv h1
    obtain ⟨hi0, h3, hh⟩ := optNat_inv h2
    obtain ⟨hb, h4⟩ := brec_inv h3
    simp only [Bool.and_eq_true, natBeq, decide_eq_true_eq] at hb
    obtain ⟨e1, e2⟩ := hb
    have e1 : l = 0 := e1
    have e2 : hi0 = 0 := e2
    subst e1; subst e2
    refine ⟨_, h4, fun {φ ρ w a lo' hi' mx'} hp ha ho1 ho2 ho3 => ?_⟩
    cases ho3
    refine ⟨a, ha, ?_⟩
    simp only [conc, Option.map_eq_some_iff] at ha
    obtain ⟨p, hpl, rfl⟩ := ha
    split
    ·simp only [Instr.sliceAt, Sem.run_bind, run_underlying hu, Result.andThen_ok, Instr.slice, sliceBounds_run (ho1.bound hl) (ho2.bound hh) (Nat.le_refl 0) (Nat.zero_le _), run_size hs, Sem.run_pure]
     simp
    ·rename_i hne
     simp only [Instr.sliceAt, Sem.run_bind, run_underlying hu, Result.andThen_ok, Instr.slice, sliceBounds_run (ho1.bound hl) (ho2.bound hh) (Nat.le_refl 0) (Nat.zero_le _), run_size hs, Sem.run_pure]
     simp [hne, add_plain]
   ·obtain ⟨hu, hs⟩ := ixOf_sli hd
    obtain ⟨l, h2, hl⟩ := optNat_inv h1
    obtain ⟨hi0, h3, hh⟩ := optNat_inv h2
    obtain ⟨hb, h4⟩ := brec_inv h3
    simp only [Bool.and_eq_true, natBeq, decide_eq_true_eq] at hb
    obtain ⟨e1, e2⟩ := hb
    have e1 : l = 0 := e1
    have e2 : hi0 = 0 := e2
    subst e1; subst e2
    refine ⟨_, h4, fun {φ ρ w a lo' hi' mx'} hp ha ho1 ho2 ho3 => ?_⟩
    cases ho3
    refine ⟨a, ha, ?_⟩
    simp only [conc, Option.map_eq_some_iff] at ha
    obtain ⟨p, hpl, rfl⟩ := ha
    simp only [Instr.sliceAt, Sem.run_bind, run_underlying hu, Result.andThen_ok, Instr.slice, sliceBounds_run (ho1.bound hl) (ho2.bound hh) (Nat.le_refl 0) (Nat.zero_le _), run_size hs, Sem.run_pure]
    simp
   ·cases h1
theorem len_sound {T : TypeId} {x : AV} {Ts : Array TypeId} {κ : AV → R} (hT : Ts[0]? = some T) (hD : lenA P T x κ ∈ D) : ∃ u, κ u ∈ D ∧ ∀ {φ ρ w a} {R' : TypeId}, conc φ ρ x = some a → RunV P φ ρ w (Builtin.len_ Ts R' #[a]) u := by
 unfold lenA at hD
 split at hD
 ·rename_i e hu
  split at hD
  ·rename_i id off len cap
   refine ⟨_, hD, fun {φ ρ w a R'} ha => ?_⟩
   obtain ⟨p, _, rfl⟩ := conc_sl ha
   exact ⟨_, rfl, by simp [Builtin.len_, hT, Sem.run_bind, run_underlying hu, goInt, SI.ev]⟩
  ·rename_i id a b
   refine ⟨_, hD, fun {φ ρ w a R'} ha => ?_⟩
   simp only [conc, Option.map_eq_some_iff] at ha
   obtain ⟨p, _, rfl⟩ := ha
   split
   ·exact ⟨_, rfl, by simp [Builtin.len_, hT, Sem.run_bind, run_underlying hu, goInt, SI.ev]⟩
   ·exact ⟨_, rfl, by simp [Builtin.len_, hT, Sem.run_bind, run_underlying hu, goInt, SI.ev]⟩
  ·rename_i id a b
   refine ⟨_, hD, fun {φ ρ w a R'} ha => ?_⟩
   simp only [conc, Option.map_eq_some_iff] at ha
   obtain ⟨p, _, rfl⟩ := ha
   exact ⟨_, rfl, by simp [Builtin.len_, hT, Sem.run_bind, run_underlying hu, goInt, SI.ev]⟩
  ·rename_i q n c
   refine ⟨_, hD, fun {φ ρ w a R'} ha => ?_⟩
   simp only [conc, Option.some.injEq] at ha
   subst ha
   exact ⟨_, rfl, by simp [Builtin.len_, hT, Sem.run_bind, run_underlying hu, goInt, SI.ev]⟩
  ·cases hD
 ·rename_i hu
  split at hD
  ·refine ⟨_, hD, fun {φ ρ w a R'} ha => ?_⟩
   simp only [conc, Option.some.injEq] at ha
   subst ha
   exact ⟨_, rfl, by simp [Builtin.len_, hT, Sem.run_bind, run_underlying hu, goInt, SI.ev]⟩
  ·cases hD
 ·rename_i n e hu
  refine ⟨_, hD, fun {φ ρ w a R'} ha => ?_⟩
  exact ⟨_, rfl, by simp [Builtin.len_, hT, Sem.run_bind, run_underlying hu, goInt, SI.ev]⟩
 ·cases hD
theorem maxZ {v : Int} (h1 : -9223372036854775808 ≤ v) (h2 : v ≤ 9223372036854775807) : binZ .andNot .i64 v (binZ .shr .i64 v (Int.ofNat 63)) = if v > 0 then v else 0 := by
 have e63 : binZ .shr .i64 v (Int.ofNat 63) = v / 9223372036854775808 := shr_div (k := .i64) (by decide)
 rw [e63]
 by_cases hv : 0 ≤ v
 ·rw [show v / 9223372036854775808 = 0 by omega]
  show IntKind.i64.wrap (((BitVec.ofInt 64 v &&& ~~~ (BitVec.ofInt 64 0)).toNat : Nat) : Int) = _
  rw [show (~~~ (BitVec.ofInt 64 0)) = BitVec.allOnes 64 by decide, BitVec.and_allOnes, BitVec.toNat_ofInt]
  rw [show IntKind.i64.wrap ((((v % ((2 ^ 64 : Nat) : Int)).toNat : Nat)) : Int) = v from by
   rw [show (((v % ((2 ^ 64 : Nat) : Int)).toNat : Nat) : Int) = v by omega]
   exact wrap_in (k := .i64) ⟨h1, h2⟩]
  split <;> omega
 ·rw [show v / 9223372036854775808 = -1 by omega, if_neg (by omega)]
  show IntKind.i64.wrap (((BitVec.ofInt 64 v &&& ~~~ (BitVec.ofInt 64 (-1))).toNat : Nat) : Int) = _
  rw [show (~~~ (BitVec.ofInt 64 (-1))) = 0#64 by decide, BitVec.and_zero]
  rfl
theorem lookX_inv {ρ : Nat → Int} {e z : SI} : ∀ {l : List (SB × Bool)}, lookX e l = some z → (∀ x ∈ l, x.1.ev ρ = x.2) → e.ev ρ = z.ev ρ
 | [], h, _ => by cases h
 | x :: l, h, hl => by
  have ht : lookX e l = some z → e.ev ρ = z.ev ρ := fun h => lookX_inv h fun y hy => hl y (by simp [hy])
  unfold lookX at h
  split at h
  ·cases h
  ·rename_i a z' _ he
   cases he
   cases hb : SI.beq a e with
   | true =>
    rw [hb] at h
    cases h
    have := hl _ List.mem_cons_self
    rw [← SI.beq_eq _ _ hb]
    simpa [SB.ev, cmpZ] using this
   | false => rw [hb] at h; exact ht h
  ·rename_i he
   cases he
   exact ht h
theorem maxX_inv {less : Bool} {k : IntKind} {a b z : SI} {pc : PC} (h : maxX less k a b pc = some z) : less = false ∧ k = .i64 ∧ ∀ {ρ}, Holds ρ pc → a.ev ρ = 0 ∧ z.ev ρ = if b.ev ρ > 0 then b.ev ρ else 0 := by
 unfold maxX at h
 cases less with
 | true => cases h
 | false =>
  cases hb : (isZ a && (kindEq k .i64 && fit64 pc.rg b)) with
  | false => rw [hb] at h; cases h
  | true =>
   rw [hb] at h
   have h : maxY pc b = some z := h
   simp only [Bool.and_eq_true] at hb
   refine ⟨rfl, kindEq_of hb.2.1, fun {ρ} hρ => ⟨isZ_ev hb.1 ρ, ?_⟩⟩
   unfold maxY at h
   split at h
   ·rename_i p hp
    have e1 := linM_ok hρ.rg (x := p.1) (n := p.2) hp
    have e2 := lookX_inv h hρ.l
    have hf := hb.2.2
    unfold fit64 at hf
    cases hx : rngS pc.rg b with
    | none => rw [hx] at hf; cases hf
    | some r =>
     obtain ⟨l, u⟩ := r
     rw [hx] at hf
     have hf : (leF (minK .i64) l && leF u (maxK .i64)) = true := hf
     simp only [Bool.and_eq_true, leF_eq, decide_eq_true_eq] at hf
     have hin := rngS_in hρ.rg b l u hx
     have m1 : minK .i64 = -9223372036854775808 := by decide
     have m2 : maxK .i64 = 9223372036854775807 := by decide
     rw [m1, m2] at hf
     have hw : IntKind.i64.wrap (p.2 - p.1.ev ρ) = b.ev ρ := by
      rw [← e1]
      exact wrap_in (k := .i64) ⟨by rw [m1]; omega, by rw [m2]; omega⟩
     rw [← e2]
     show binZ .andNot .i64 (IntKind.i64.wrap (p.2 - p.1.ev ρ)) (binZ .shr .i64 (IntKind.i64.wrap (p.2 - p.1.ev ρ)) (Int.ofNat 63)) = _
     rw [hw]
     exact maxZ (by omega) (by omega)
   ·cases h
theorem tieB_ok {rg : List (Int × Int)} {a b : SI} (h : tieB rg a b = true) {ρ : Nat → Int} (hr : RgOk ρ rg) : a.ev ρ = b.ev ρ := by
 unfold tieB at h
 split at h
 ·rename_i n
  split at h
  ·rename_i i
   cases hx : rngS rg (.var i) with
   | none => rw [hx] at h; cases h
   | some r =>
    obtain ⟨l, u⟩ := r
    rw [hx] at h
    have h : (beqF l n && beqF u n) = true := h
    simp only [Bool.and_eq_true, beqF_eq, decide_eq_true_eq] at h
    have hin := rngS_in hr (.var i) l u hx
    show n = (SI.var i).ev ρ
    omega
  ·cases h
 ·cases h
theorem mm_sound {less : Bool} {x y : AV} {pc : PC} {κ : AV → PC → R} (hD : mmA less x y pc κ ∈ D) : ∃ u pc', κ u pc' ∈ D ∧ PcExt pc pc' ∧ ∀ {φ ρ w a b}, Holds ρ pc' → conc φ ρ x = some a → conc φ ρ y = some b →
  RunV P φ ρ w (if less then Builtin.min2 a b else Builtin.max2 a b) u := by
 obtain ⟨k, e, rfl, h1⟩ := asInt_inv hD
 obtain ⟨k', e', rfl, h2⟩ := asInt_inv h1
 split at h2
 ·rename_i z hz
  obtain ⟨rfl, rfl, hev⟩ := maxX_inv hz
  refine ⟨_, _, h2, .refl _, fun {φ ρ w a b'} hρ ha hb' => ?_⟩
  simp only [conc, Option.some.injEq] at ha hb'
  subst ha; subst hb'
  obtain ⟨z1, z2⟩ := hev hρ
  refine ⟨_, rfl, ?_⟩
  rw [z1, z2]
  by_cases h : e'.ev ρ > 0
  ·simp [Builtin.max2, h]
  ·simp [Builtin.max2, h]
 rcases brec_cases h2 with ⟨ht, h2⟩ | ⟨_, h2⟩
 ·refine ⟨_, _, h2, .refl _, fun {φ ρ w a b'} hρ ha hb' => ?_⟩
  simp only [conc, Option.some.injEq] at ha hb'
  subst ha; subst hb'
  have he := tieB_ok ht hρ.rg
  refine ⟨_, rfl, ?_⟩
  rw [he]
  cases less <;> simp [Builtin.max2, Builtin.min2]
 rcases brec_cases h2 with ⟨rfl, h3⟩ | ⟨rfl, h3⟩
 ·obtain ⟨r, hr, hev⟩ := cmpK_spec .lss e' e (fun c => decK pc c fun c pc => κ (Bool.rec (motive := fun _ => AV) (.int k e) (.int k e') c) pc)
  rw [hr] at h3
  obtain ⟨b, pc', h4, hx, hb⟩ := decK_inv h3
  refine ⟨_, _, h4, hx, fun {φ ρ w a b'} hρ ha hb' => ?_⟩
  simp only [conc, Option.some.injEq] at ha hb'
  subst ha; subst hb'
  have := hb ρ hρ
  rw [hev] at this
  cases b with
  | true =>
   simp only [cmpZ, decide_eq_true_eq, gt_iff_lt] at this
   exact ⟨_, rfl, by simp [Builtin.min2, this]⟩
  | false =>
   simp only [cmpZ, decide_eq_false_iff_not, gt_iff_lt] at this
   exact ⟨_, rfl, by simp [Builtin.min2, this]⟩
 ·obtain ⟨r, hr, hev⟩ := cmpK_spec .gtr e' e (fun c => decK pc c fun c pc => κ (Bool.rec (motive := fun _ => AV) (.int k e) (.int k e') c) pc)
  rw [hr] at h3
  obtain ⟨b, pc', h4, hx, hb⟩ := decK_inv h3
  refine ⟨_, _, h4, hx, fun {φ ρ w a b'} hρ ha hb' => ?_⟩
  simp only [conc, Option.some.injEq] at ha hb'
  subst ha; subst hb'
  have := hb ρ hρ
  rw [hev] at this
  cases b with
  | true =>
   simp only [cmpZ, decide_eq_true_eq, gt_iff_lt] at this
   exact ⟨_, rfl, by simp [Builtin.max2, this]⟩
  | false =>
   simp only [cmpZ, decide_eq_false_iff_not, gt_iff_lt] at this
   exact ⟨_, rfl, by simp [Builtin.max2, this]⟩
theorem mmL_sound {less : Bool} : ∀ {l : List AV} {x : AV} {pc : PC} {κ : AV → PC → R}, mmL less l x pc κ ∈ D → ∃ u pc', κ u pc' ∈ D ∧ PcExt pc pc' ∧ ∀ {φ ρ w a xs}, Holds ρ pc' → conc φ ρ x = some a → concL φ ρ l = some xs →
  RunV P φ ρ w (xs.foldlM (if less then Builtin.min2 else Builtin.max2) a) u
 | [], x, pc, κ, hD => ⟨x, pc, hD, .refl _, fun {φ ρ w a xs} _ ha hx => by
   simp only [concL, Option.some.injEq] at hx
   subst hx
   exact ⟨a, ha, rfl⟩⟩
 | y :: l, x, pc, κ, hD => by
  have hD : mmA less x y pc (fun v pc => mmL less l v pc κ) ∈ D := hD
  obtain ⟨u, pc1, h1, x1, hu⟩ := mm_sound (P := P) hD
  obtain ⟨v, pc2, h2, x2, hv⟩ := mmL_sound h1
  refine ⟨v, pc2, h2, x1.trans x2, fun {φ ρ w a xs} hρ ha hx => ?_⟩
  obtain ⟨b, ys, hb, hys, rfl⟩ := concL_cons.1 hx
  obtain ⟨c, hc, hr⟩ := hu (w := w) (hρ.of_ext x2) ha hb
  obtain ⟨d, hd, hr2⟩ := hv (w := w) hρ hc hys
  refine ⟨d, hd, ?_⟩
  rw [List.foldlM_cons, Sem.run_bind]
  cases less
  ·simp only [Bool.false_eq_true, if_false] at hr hr2 ⊢
   rw [hr]; exact hr2
  ·simp only [if_true] at hr hr2 ⊢
   rw [hr]; exact hr2
theorem mapK_inv {id : Nat} {κ : List (AV × AV × Nat) → Nat → R} (hD : mapK h id κ ∈ D) : ∃ es c, h.get id = some (.map es c) ∧ κ es c ∈ D := by
 obtain ⟨o, ho, h1⟩ := optK_inv hD
 split at h1
 ·exact ⟨_, _, ho, h1⟩
 ·cases h1
theorem getObj_map {w : World} {r : Nat} {xs : Array MapEntry} {c : Nat} (h : w.heap[r]? = some (.map xs c)) : (getObj r).run P w = .ok (.map xs c) w := by
 simp [getObj, Sem.run, h]
theorem EntOk.length {φ : List Pl} {ρ : Nat → Int} {es : List (AV × AV × Nat)} {ms : List MapEntry} (h : EntOk φ ρ es ms) : ms.length = es.length := by
 induction h with
 | nil => rfl
 | cons _ _ _ ih => simp [ih]
theorem lenE_eq : ∀ (es : List (AV × AV × Nat)), lenE es = es.length
 | [] => rfl
 | _ :: es => by show Nat.succ (lenE es) = es.length + 1; rw [lenE_eq es]
theorem lenM_sound {T : TypeId} {x : AV} {Ts : Array TypeId} {κ : AV → R} (hT : Ts[0]? = some T) (hD : lenM P T h x κ ∈ D) : ∃ u, κ u ∈ D ∧ ∀ {φ ρ w a} {R' : TypeId}, Hp P φ ρ h w → conc φ ρ x = some a → RunV P φ ρ w (Builtin.len_ Ts R' #[a]) u := by
 unfold lenM at hD
 split at hD
 ·rename_i K E hu
  split at hD
  ·rename_i id
   obtain ⟨es, c, hid, h1⟩ := mapK_inv hD
   rw [forceN_eq] at h1
   refine ⟨_, h1, fun {φ ρ w a R'} hp ha => ?_⟩
   obtain ⟨pl, xs, hpl, hx, he⟩ := hp.obj _ _ hid
   simp only [conc, hpl, Option.map_some, Option.some.injEq] at ha
   subst ha
   have hl : xs.size = lenE es := by rw [lenE_eq, ← he.length, Array.length_toList]
   refine ⟨.int .i64 (lenE es), rfl, ?_⟩
   simp only [Builtin.len_, hT, List.getElem?_toArray, List.getElem?_cons_zero, Sem.run_bind, run_underlying hu, Result.andThen_ok, getObj_map hx]
   rw [hl]
   rfl
  ·refine ⟨_, hD, fun {φ ρ w a R'} hp ha => ?_⟩
   simp only [conc, Option.some.injEq] at ha
   subst ha
   refine ⟨.int .i64 0, rfl, ?_⟩
   simp only [Builtin.len_, hT, List.getElem?_toArray, List.getElem?_cons_zero, Sem.run_bind, run_underlying hu, Result.andThen_ok]
   rfl
  ·cases hD
 ·obtain ⟨u, h1, hu⟩ := len_sound hT hD
  exact ⟨u, h1, fun _ ha => hu ha⟩
theorem lenY_sound {T : TypeId} {x : AV} {Ts : Array TypeId} {pc : PC} {κ : AV → PC → R} (hT : Ts[0]? = some T) (hD : lenY P T x pc κ ∈ D) : ∃ u pc', κ u pc' ∈ D ∧ PcExt pc pc' ∧ ∀ {φ ρ w a} {R' : TypeId}, Holds ρ pc' → Hp P φ ρ h w → conc φ ρ x = some a → RunV P φ ρ w (Builtin.len_ Ts R' #[a]) u := by
 unfold lenY at hD
 split at hD
 ·rename_i e hu
  obtain ⟨n, h1, h2⟩ := lenS_inv hD
  refine ⟨_, pc, h1, .refl _, fun {φ ρ w a R'} hρ _ ha => ?_⟩
  obtain ⟨h0, p, m, c, rfl, hm⟩ := h2 hρ.rg ha
  refine ⟨.int .i64 (n.ev ρ), rfl, ?_⟩
  simp [Builtin.len_, hT, Sem.run_bind, run_underlying hu, goInt]
  omega
 ·cases hD
theorem lenQ_sound {T : TypeId} {x : AV} {Ts : Array TypeId} {pc : PC} {κ : AV → PC → R} (hT : Ts[0]? = some T) (hD : lenQ P T h x pc κ ∈ D) : ∃ u pc', κ u pc' ∈ D ∧ PcExt pc pc' ∧ ∀ {φ ρ w a} {R' : TypeId}, Holds ρ pc' → Hp P φ ρ h w → conc φ ρ x = some a → RunV P φ ρ w (Builtin.len_ Ts R' #[a]) u := by
 unfold lenQ at hD
 split at hD
 ·rename_i p k c
  split at hD
  ·rename_i e hu
   obtain ⟨b, pc', h1, hx, hb⟩ := decK_inv hD
   obtain ⟨rfl, h2⟩ := brec_inv h1
   rcases brec_cases h2 with ⟨hn, h2⟩ | ⟨_, h2⟩
   ·refine ⟨_, pc', h2, hx, fun {φ ρ w a R'} hρ _ ha => ?_⟩
    have h0 := nilR_ev hn hρ.rg
    have h0 : ρ k = 0 := h0
    simp only [conc, Option.some.injEq, h0] at ha
    subst ha
    refine ⟨.int .i64 0, rfl, ?_⟩
    simp [Builtin.len_, hT, Sem.run_bind, run_underlying hu, goInt]
   refine ⟨_, pc', h2, hx, fun {φ ρ w a R'} hρ _ ha => ?_⟩
   simp only [conc, Option.some.injEq] at ha
   subst ha
   have h0 := hb ρ hρ
   have h0 : 0 ≤ ρ k := of_decide_eq_true h0
   refine ⟨.int .i64 (ρ k), rfl, ?_⟩
   simp [Builtin.len_, hT, Sem.run_bind, run_underlying hu, goInt]
   omega
  ·cases hD
 ·exact lenY_sound hT hD
 ·exact lenY_sound hT hD
 ·obtain ⟨u, h1, hu⟩ := lenM_sound hT hD
  exact ⟨u, pc, h1, .refl _, fun _ hp ha => hu hp ha⟩
theorem bltQ_sound {b : Builtin} {Ts : Array TypeId} {l : List AV} {pc : PC} {κ : AV → PC → R} (hD : bltQ P b Ts h l pc κ ∈ D) : ∃ u pc', κ u pc' ∈ D ∧ PcExt pc pc' ∧ ∀ {φ ρ w xs} {T : TypeId} {cs : Array Bool}, Holds ρ pc' → Hp P φ ρ h w → concL φ ρ l = some xs →
  ∃ x, conc φ ρ u = some x ∧ (builtin b Ts T cs xs.toArray).run P w = .ok (.value x) w := by
 unfold bltQ at hD
 split at hD
 ·split at hD
  ·rename_i x
   obtain ⟨T', hT, h1⟩ := optK_inv hD
   obtain ⟨u, pc', h2, hxt, hu⟩ := lenQ_sound hT h1
   refine ⟨u, pc', h2, hxt, fun {φ ρ w xs T cs} hρ hp hx => ?_⟩
   obtain ⟨a, ys, ha, hys, rfl⟩ := concL_cons.1 hx
   simp only [concL, Option.some.injEq] at hys
   subst hys
   obtain ⟨y, hy, hr⟩ := hu (w := w) (R' := T) hρ hp ha
   exact ⟨y, hy, by simp only [builtin, Sem.run_bind]; rw [hr]; rfl⟩
  ·cases hD
 ·split at hD
  ·rename_i x l
   obtain ⟨u, pc', h1, hx, hu⟩ := mmL_sound (P := P) hD
   refine ⟨u, pc', h1, hx, fun {φ ρ w xs T cs} hρ _ hxs => ?_⟩
   obtain ⟨a, ys, ha, hys, rfl⟩ := concL_cons.1 hxs
   obtain ⟨y, hy, hr⟩ := hu (w := w) hρ ha hys
   simp only [if_true] at hr
   exact ⟨y, hy, by simp only [builtin, Sem.run_bind, Builtin.min_]; rw [hr]; rfl⟩
  ·cases hD
 ·split at hD
  ·rename_i x l
   obtain ⟨u, pc', h1, hx, hu⟩ := mmL_sound (P := P) hD
   refine ⟨u, pc', h1, hx, fun {φ ρ w xs T cs} hρ _ hxs => ?_⟩
   obtain ⟨a, ys, ha, hys, rfl⟩ := concL_cons.1 hxs
   obtain ⟨y, hy, hr⟩ := hu (w := w) hρ ha hys
   simp only [Bool.false_eq_true, if_false] at hr
   exact ⟨y, hy, by simp only [builtin, Sem.run_bind, Builtin.max_]; rw [hr]; rfl⟩
  ·cases hD
 ·cases hD
end
end Go.Proofs.YtooebogidjejoaaGreat
namespace Go.Proofs.YtooebogidjejoaaGreat
open Go
section
variable {P : Program} {D : Dn} {h : Tr AObj}
theorem ordK_inv {pc : PC} {l hi c : SI} {κ : PC → R} (hD : ordK pc l hi c κ ∈ D) : ∃ pc', κ pc' ∈ D ∧ PcExt pc pc' ∧ ∀ ρ, Holds ρ pc' → 0 ≤ l.ev ρ ∧ l.ev ρ ≤ hi.ev ρ ∧ hi.ev ρ ≤ c.ev ρ := by
 obtain ⟨hb, h1⟩ := brec_inv hD
 simp only [Bool.and_eq_true] at hb
 obtain ⟨b, pc1, h2, x1, h3⟩ := leD_inv h1
 obtain ⟨rfl, h4⟩ := brec_inv h2
 obtain ⟨b, pc2, h5, x2, h6⟩ := leD_inv h4
 obtain ⟨rfl, h7⟩ := brec_inv h5
 refine ⟨pc2, h7, x1.trans x2, fun ρ hρ => ?_⟩
 have hr : RgOk ρ pc.rg := by
  have := hρ.rg
  rw [x2.rg, x1.rg] at this
  exact this
 exact ⟨(nnB_ok hb.1 hr).1, (h3 ρ (hρ.of_ext x2)).1 rfl, (h6 ρ hρ).1 rfl⟩
theorem spanK_inv {e : TypeId} {pc : PC} {id : Nat} {off len : SI} {κ : PC → R} (hs : sizeA P e = some 1) (hD : spanK h e pc id off len κ ∈ D) : ∃ pc', κ pc' ∈ D ∧ PcExt pc pc' ∧ ∀ {φ ρ w p}, Holds ρ pc' → Hp P φ ρ h w → φ[id]? = some p → 0 ≤ off.ev ρ ∧ 0 ≤ len.ev ρ ∧ p.es = 1 ∧ p.sh + (off.ev ρ).toNat + (len.ev ρ).toNat ≤ p.sz := by
 obtain ⟨o, ho, h1⟩ := optK_inv hD
 cases o with
 | rope cs T r =>
  obtain ⟨_, pc', h2, hx, _, h3⟩ := readO_inv (show readO (.rope cs T r) pc off len (fun _ pc => κ pc) ∈ D from h1)
  refine ⟨pc', h2, hx, fun {φ ρ w p} hρ hp hpl => ?_⟩
  obtain ⟨a1, a2, a3, _⟩ := h3 hρ (hp.obj _ _ ho) hpl
  obtain ⟨p', arr, fz, hp', hc⟩ := hp.obj _ _ ho
  rw [hpl] at hp'; cases hp'
  exact ⟨a1, a2, hc.e1, a3⟩
 | cells n c d T r =>
  obtain ⟨hb, h2⟩ := brec_inv (show Bool.rec (motive := fun _ => R) (.fail 444) (readO (.cells n c d T r) pc off len fun _ pc => κ pc) (Nat.beq T e && r) ∈ D from h1)
  simp only [Bool.and_eq_true, natBeq, decide_eq_true_eq] at hb
  obtain ⟨rfl, rfl⟩ := hb
  obtain ⟨_, pc', h3, hx, _, h4⟩ := readO_inv h2
  refine ⟨pc', h3, hx, fun {φ ρ w p} hρ hp hpl => ?_⟩
  obtain ⟨a1, a2, a3, _⟩ := h4 hρ (hp.obj _ _ ho) hpl
  obtain ⟨p', arr, fz, hp', hc⟩ := hp.obj _ _ ho
  rw [hpl] at hp'; cases hp'
  obtain ⟨e1, _⟩ := hc.es rfl
  exact ⟨a1, a2, (Option.some.inj (hs.symm.trans e1)).symm, a3⟩
 | map _ _ => cases h1
 | iter _ _ _ _ => cases h1
 | dead => cases h1
theorem sl_ssl {φ : List Pl} {ρ : Nat → Int} {id off len : Nat} : conc φ ρ (.sl id off len none) = conc φ ρ (.ssl id (natS off) (natS off) (natS len) none) := by
 cases hp : φ[id]? with
 | none => simp only [conc, hp, Option.map_none]
 | some p =>
  rw [ssl_none hp]
  simp only [conc, hp, Option.map_some, Option.getD_none]
  show some (Value.slice (some ⟨p.blk, p.sh + off, none⟩) len (p.room off)) = some (if ((natS len).ev ρ).toNat = 0 ∧ p.room off = 0 then .slice (some ⟨p.blk, p.sh + off, none⟩) 0 0 else .slice (some ⟨p.blk, p.sh + off, none⟩) len (p.room off))
  split
  ·rename_i hz
   have h0 : len = 0 := hz.1
   rw [h0, hz.2]
  ·rfl
theorem sl_ssl' {φ : List Pl} {ρ : Nat → Int} {id off len c : Nat} : conc φ ρ (.sl id off len (some c)) = conc φ ρ (.ssl id (natS off) (natS off) (natS len) (some (natS c))) := by
 cases hp : φ[id]? with
 | none => simp only [conc, hp, Option.map_none]
 | some p =>
  rw [ssl_some hp]
  simp only [conc, hp, Option.map_some, Option.getD_some]
  rfl
theorem optS_inv {v : Option AV} {d : SI} {κ : SI → R} (hD : optS v d κ ∈ D) : ∃ e, κ e ∈ D ∧ ((v = none ∧ e = d) ∨ ∃ k, v = some (.int k e)) := by
 unfold optS at hD
 split at hD
 ·obtain ⟨k, e, rfl, h1⟩ := intV_inv hD
  exact ⟨e, h1, .inr ⟨k, rfl⟩⟩
 ·exact ⟨_, hD, .inl ⟨rfl, rfl⟩⟩
theorem optS_bound {φ : List Pl} {ρ : Nat → Int} {v : Option AV} {x : Option Value} {e d : SI} {n : Nat} (ho : OptOk φ ρ v x) (he : (v = none ∧ e = d) ∨ ∃ k, v = some (.int k e)) (h0 : 0 ≤ e.ev ρ) (hd : (d.ev ρ).toNat = n) : (x = none ∧ (e.ev ρ).toNat = n) ∨ ∃ k, x = some (.int k ((e.ev ρ).toNat : Int)) := by
 cases ho with
 | no =>
  rcases he with ⟨_, rfl⟩ | ⟨k, h⟩
  ·exact .inl ⟨rfl, hd⟩
  ·cases h
 | yes h =>
  rcases he with ⟨h', _⟩ | ⟨k, h'⟩
  ·cases h'
  ·cases h'
   simp only [conc, Option.some.injEq] at h
   subst h
   refine .inr ⟨k, ?_⟩
   congr 2
   omega
theorem sliceAt_run {T e : TypeId} (hu : P.underlying T = some (.slice e)) (hs : sizeA P e = some 1) {w : World} {A : Addr} {len cap l hi : Nat} {lo' hi' : Option Value} (bl : (lo' = none ∧ l = 0) ∨ ∃ k, lo' = some (.int k (l : Int))) (bh : (hi' = none ∧ hi = len) ∨ ∃ k, hi' = some (.int k (hi : Int))) (h1 : l ≤ hi) (h2 : hi ≤ cap) :
  (Instr.sliceAt T (.slice (some A) len cap) lo' hi' none).run P w = .ok (.slice (some (if cap = l then A else A.add l)) (hi - l) (cap - l)) w := by
 simp only [Instr.sliceAt, Sem.run_bind, run_underlying hu, Result.andThen_ok, Instr.slice, sliceBounds_run bl bh h1 h2, run_size hs, Sem.run_pure]
 by_cases em : cap = l <;> simp [em]
theorem sliceAt_run3 {T e : TypeId} (hu : P.underlying T = some (.slice e)) (hs : sizeA P e = some 1) {w : World} {A : Addr} {len cap l hi m : Nat} {k k' : IntKind} {lo' : Option Value} (bl : (lo' = none ∧ l = 0) ∨ ∃ k, lo' = some (.int k (l : Int))) (h1 : l ≤ hi) (h2 : hi ≤ m) (h3 : m ≤ cap) :
  (Instr.sliceAt T (.slice (some A) len cap) lo' (some (.int k (hi : Int))) (some (.int k' (m : Int)))).run P w = .ok (.slice (some (if m = l then A else A.add l)) (hi - l) (m - l)) w := by
 simp only [Instr.sliceAt, Sem.run_bind, run_underlying hu, Result.andThen_ok, Instr.slice, Int.ofNat_eq_natCast, sliceBounds_run3 bl h1 h2 h3, run_size hs, Sem.run_pure]
 by_cases em : m = l <;> simp [em]
theorem sslU_sound {T e : TypeId} (hu : P.underlying T = some (.slice e)) (hs : sizeA P e = some 1) {id : Nat} {o0 off len l hi : SI} {pc : PC} {κ : AV → PC → R} (hD : sslU h e id o0 off len pc l hi κ ∈ D) :
  ∃ u pc', κ u pc' ∈ D ∧ PcExt pc pc' ∧ ∀ {φ ρ w a lo' hi'}, Holds ρ pc' → Hp P φ ρ h w → conc φ ρ (.ssl id o0 off len none) = some a → 0 ≤ l.ev ρ ∧ 0 ≤ hi.ev ρ ∧ (((lo' = none ∧ (l.ev ρ).toNat = 0) ∨ ∃ k, lo' = some (.int k ((l.ev ρ).toNat : Int))) → ((hi' = none ∧ (hi.ev ρ).toNat = (len.ev ρ).toNat) ∨ ∃ k, hi' = some (.int k ((hi.ev ρ).toNat : Int))) → RunV P φ ρ w (Instr.sliceAt T a lo' hi' none) u) := by
 obtain ⟨pc1, h1, x1, hsp⟩ := spanK_inv hs hD
 obtain ⟨pc2, h2, x2, hord⟩ := ordK_inv h1
 -- what the slice is, and what comes of it
 have key : ∀ {u : AV} {pc3 : PC}, PcExt pc2 pc3 → (∀ {φ ρ p}, Holds ρ pc3 → φ[id]? = some p → p.es = 1 → p.sh + (off.ev ρ).toNat + (len.ev ρ).toNat ≤ p.sz → 0 ≤ off.ev ρ → 0 ≤ l.ev ρ → l.ev ρ ≤ hi.ev ρ → hi.ev ρ ≤ len.ev ρ → conc φ ρ u = some (.slice (some (if p.room (off.ev ρ).toNat = (l.ev ρ).toNat then (if (len.ev ρ).toNat = 0 ∧ p.room (off.ev ρ).toNat = 0 then ⟨p.blk, p.sh + (o0.ev ρ).toNat, none⟩ else ⟨p.blk, p.sh + (off.ev ρ).toNat, none⟩) else ⟨p.blk, p.sh + (off.ev ρ).toNat + (l.ev ρ).toNat, none⟩)) ((hi.ev ρ).toNat - (l.ev ρ).toNat) (p.room (off.ev ρ).toNat - (l.ev ρ).toNat))) →
   ∀ {φ ρ w a lo' hi'}, Holds ρ pc3 → Hp P φ ρ h w → conc φ ρ (.ssl id o0 off len none) = some a → 0 ≤ l.ev ρ ∧ 0 ≤ hi.ev ρ ∧ (((lo' = none ∧ (l.ev ρ).toNat = 0) ∨ ∃ k, lo' = some (.int k ((l.ev ρ).toNat : Int))) → ((hi' = none ∧ (hi.ev ρ).toNat = (len.ev ρ).toNat) ∨ ∃ k, hi' = some (.int k ((hi.ev ρ).toNat : Int))) → RunV P φ ρ w (Instr.sliceAt T a lo' hi' none) u) := by
  intro u pc3 x3 hu3 φ ρ w a lo' hi' hρ hp ha
  have hρ2 := hρ.of_ext x3
  obtain ⟨q1, q2, q3⟩ := hord ρ hρ2
  refine ⟨q1, by omega, fun bl bh => ?_⟩
  have hpl : ∃ p, φ[id]? = some p := by
   simp only [conc, Option.map_eq_some_iff] at ha
   obtain ⟨p, hp, _⟩ := ha
   exact ⟨p, hp⟩
  obtain ⟨p, hpl⟩ := hpl
  obtain ⟨a1, a2, a3, a4⟩ := hsp (hρ2.of_ext x2) hp hpl
  have hcu := hu3 hρ hpl a3 a4 a1 q1 q2 q3
  have hr := room1 a3 (off.ev ρ).toNat
  rw [ssl_none hpl] at ha
  cases ha
  refine ⟨_, hcu, ?_⟩
  by_cases hz : (len.ev ρ).toNat = 0 ∧ p.room (off.ev ρ).toNat = 0
  ·rw [if_pos hz]
   have hl0 := hz.1
   have hrun := sliceAt_run (P := P) hu hs (w := w) (A := ⟨p.blk, p.sh + (o0.ev ρ).toNat, none⟩) (len := 0) (cap := 0) (l := (l.ev ρ).toNat) (hi := (hi.ev ρ).toNat) bl (by rw [hl0] at bh; exact bh) (by omega) (by omega)
   rw [hrun]
   have e1 : (l.ev ρ).toNat = 0 := by omega
   have e2 : (hi.ev ρ).toNat = 0 := by omega
   simp [e1, e2, hz.1, hz.2]
  ·rw [if_neg hz]
   have hrun := sliceAt_run (P := P) hu hs (w := w) (A := ⟨p.blk, p.sh + (off.ev ρ).toNat, none⟩) (len := (len.ev ρ).toNat) (cap := p.room (off.ev ρ).toNat) (l := (l.ev ρ).toNat) (hi := (hi.ev ρ).toNat) bl bh (by omega) (by omega)
   rw [hrun]
   simp only [if_neg hz, add_plain]
 rcases brec_cases h2 with ⟨hz, h3⟩ | ⟨hz, h3⟩
 ·rcases brec_cases h3 with ⟨hzl, h4⟩ | ⟨hzl, h4⟩
  ·refine ⟨_, pc2, h4, x1.trans x2, fun {φ ρ w a lo' hi'} => key (.refl _) fun {φ ρ p} hρ hpl he hsz h0 q1 q2 q3 => ?_⟩
   have hl0 : l.ev ρ = 0 := isZ_ev hz ρ
   have hlen := isZ_ev hzl ρ
   have hlz : (len.ev ρ).toNat = 0 := by omega
   have hh : (hi.ev ρ).toNat = 0 := by omega
   rw [ssl_none hpl, hl0, hh]
   have e0 : (zeroS.ev ρ).toNat = 0 := rfl
   simp only [Int.toNat_zero, Nat.sub_zero, Nat.add_zero, hlz, true_and, e0]
   by_cases hr0 : p.room (off.ev ρ).toNat = 0
   ·simp only [hr0, if_true]
   ·simp only [hr0, if_false]
  ·refine ⟨_, pc2, h4, x1.trans x2, fun {φ ρ w a lo' hi'} => key (.refl _) fun {φ ρ p} hρ hpl he hsz h0 q1 q2 q3 => ?_⟩
   have hl0 : l.ev ρ = 0 := isZ_ev hz ρ
   have hr := room1 he (off.ev ρ).toNat
   rw [ssl_none hpl, hl0]
   simp only [Int.toNat_zero, Nat.sub_zero, Nat.add_zero]
   cases hp1 : posR pc2.rg len with
   | true =>
    have h1 := posR_ok hp1 hρ.rg
    rw [if_neg (c := (len.ev ρ).toNat = 0 ∧ _) (fun hh => by have := hh.1; omega), ite_self]
    show some (if (hi.ev ρ).toNat = 0 ∧ p.room (off.ev ρ).toNat = 0 then Value.slice (some ⟨p.blk, p.sh + (off.ev ρ).toNat, none⟩) 0 0 else _) = _
    split
    ·rename_i hc
     rw [hc.1, hc.2]
    ·rfl
   | false =>
    show some (if (hi.ev ρ).toNat = 0 ∧ p.room (off.ev ρ).toNat = 0 then Value.slice (some ⟨p.blk, p.sh + (o0.ev ρ).toNat, none⟩) 0 0 else _) = _
    by_cases hr0 : p.room (off.ev ρ).toNat = 0
    ·have hlz : (len.ev ρ).toNat = 0 := by omega
     have hh : (hi.ev ρ).toNat = 0 := by omega
     simp [hr0, hlz, hh]
    ·simp [hr0]
 ·obtain ⟨off', h4, hof⟩ := plE_inv h3
  -- something may be left of it
  have some_ : ∀ {n : SI} {pc3 : PC}, PcExt pc2 pc3 → κ (.ssl id off off' n none) pc3 ∈ D → (∀ {ρ}, Holds ρ pc3 → n.ev ρ = hi.ev ρ - l.ev ρ ∧ 1 ≤ len.ev ρ) → ∃ u pc', κ u pc' ∈ D ∧ PcExt pc pc' ∧ ∀ {φ ρ w a lo' hi'}, Holds ρ pc' → Hp P φ ρ h w → conc φ ρ (.ssl id o0 off len none) = some a → 0 ≤ l.ev ρ ∧ 0 ≤ hi.ev ρ ∧ (((lo' = none ∧ (l.ev ρ).toNat = 0) ∨ ∃ k, lo' = some (.int k ((l.ev ρ).toNat : Int))) → ((hi' = none ∧ (hi.ev ρ).toNat = (len.ev ρ).toNat) ∨ ∃ k, hi' = some (.int k ((hi.ev ρ).toNat : Int))) → RunV P φ ρ w (Instr.sliceAt T a lo' hi' none) u) := by
   intro n pc3 x3 h7 hn
   refine ⟨_, pc3, h7, (x1.trans x2).trans x3, fun {φ ρ w a lo' hi'} => key x3 fun {φ ρ p} hρ hpl he hsz h0 q1 q2 q3 => ?_⟩
   obtain ⟨e2, h8⟩ := hn hρ
   obtain ⟨e1, _, _⟩ := hof ρ (by rw [← x3.rg]; exact hρ.rg)
   have hr := room1 he (off.ev ρ).toNat
   have hr' := room1 he ((off.ev ρ + l.ev ρ).toNat)
   have a1 : (off.ev ρ + l.ev ρ).toNat = (off.ev ρ).toNat + (l.ev ρ).toNat := by omega
   have a2 : (hi.ev ρ - l.ev ρ).toNat = (hi.ev ρ).toNat - (l.ev ρ).toNat := by omega
   rw [ssl_none hpl, e1, e2, a2, hr', hr, a1, if_neg (c := (len.ev ρ).toNat = 0 ∧ _) (fun hh => by have := hh.1; omega)]
   by_cases hc : p.sz - (p.sh + (off.ev ρ).toNat) = (l.ev ρ).toNat
   ·rw [if_pos hc, if_pos ⟨by omega, by omega⟩, hc, show (hi.ev ρ).toNat - (l.ev ρ).toNat = 0 by omega, Nat.sub_self]
   ·rw [if_neg hc, if_neg (fun hh => by have := hh.2; omega)]
    rw [show p.sz - (p.sh + ((off.ev ρ).toNat + (l.ev ρ).toNat)) = p.sz - (p.sh + (off.ev ρ).toNat) - (l.ev ρ).toNat by omega, Nat.add_assoc]
  rcases brec_cases h4 with ⟨hop, h4⟩ | ⟨_, h4⟩
  ·unfold openL at hop
   rw [Bool.and_eq_true] at hop
   obtain ⟨n, h7, hn⟩ := mnE_inv h4
   exact some_ (.refl _) h7 fun {ρ} hρ => ⟨(hn ρ hρ.rg).1, posR_ok hop.1 hρ.rg⟩
  obtain ⟨b, pc3, h5, x3, hle⟩ := leD_inv h4
  rcases brec_cases h5 with ⟨rfl, h6⟩ | ⟨rfl, h6⟩
  ·-- nothing is left
   have none_ : ∀ {q : SI} {pc4 : PC}, PcExt pc3 pc4 → κ (.ssl id q off' zeroS none) pc4 ∈ D → (∀ {ρ}, Holds ρ pc4 → ((len.ev ρ).toNat = 0 → q.ev ρ = o0.ev ρ) ∧ (¬ (len.ev ρ).toNat = 0 → q.ev ρ = off.ev ρ)) → ∃ u pc', κ u pc' ∈ D ∧ PcExt pc pc' ∧ ∀ {φ ρ w a lo' hi'}, Holds ρ pc' → Hp P φ ρ h w → conc φ ρ (.ssl id o0 off len none) = some a → 0 ≤ l.ev ρ ∧ 0 ≤ hi.ev ρ ∧ (((lo' = none ∧ (l.ev ρ).toNat = 0) ∨ ∃ k, lo' = some (.int k ((l.ev ρ).toNat : Int))) → ((hi' = none ∧ (hi.ev ρ).toNat = (len.ev ρ).toNat) ∨ ∃ k, hi' = some (.int k ((hi.ev ρ).toNat : Int))) → RunV P φ ρ w (Instr.sliceAt T a lo' hi' none) u) := by
    intro q pc4 x4 h7 hq
    refine ⟨_, pc4, h7, ((x1.trans x2).trans x3).trans x4, fun {φ ρ w a lo' hi'} => key (x3.trans x4) fun {φ ρ p} hρ hpl he hsz h0 q1 q2 q3 => ?_⟩
    obtain ⟨hq0, hq1⟩ := hq hρ
    have h7 := (hle ρ (hρ.of_ext x4)).1 rfl
    obtain ⟨e1, _, _⟩ := hof ρ (by rw [← x3.rg, ← x4.rg]; exact hρ.rg)
    have hr := room1 he (off.ev ρ).toNat
    have hr' := room1 he ((off.ev ρ + l.ev ρ).toNat)
    have a1 : (off.ev ρ + l.ev ρ).toNat = (off.ev ρ).toNat + (l.ev ρ).toNat := by omega
    have hiff : p.room (off.ev ρ + l.ev ρ).toNat = 0 ↔ p.room (off.ev ρ).toNat = (l.ev ρ).toNat := by rw [hr, hr', a1]; omega
    have b1 : (hi.ev ρ).toNat - (l.ev ρ).toNat = 0 := by omega
    have e0 : (zeroS.ev ρ).toNat = 0 := rfl
    rw [ssl_none hpl, e1, b1]
    by_cases hroom : p.room (off.ev ρ).toNat = (l.ev ρ).toNat
    ·rw [if_pos ⟨e0, hiff.2 hroom⟩, if_pos hroom, hroom, Nat.sub_self]
     by_cases hlz : (len.ev ρ).toNat = 0
     ·have hl0 : (l.ev ρ).toNat = 0 := by omega
      rw [if_pos ⟨hlz, hl0⟩, hq0 hlz]
     ·rw [if_neg (fun hh => hlz hh.1), hq1 hlz]
    ·rw [if_neg (fun hh => hroom (hiff.1 hh.2)), if_neg hroom, e0, a1, hr, show p.room ((off.ev ρ).toNat + (l.ev ρ).toNat) = p.sz - (p.sh + ((off.ev ρ).toNat + (l.ev ρ).toNat)) from room1 he _]
     rw [show p.sz - (p.sh + ((off.ev ρ).toNat + (l.ev ρ).toNat)) = p.sz - (p.sh + (off.ev ρ).toNat) - (l.ev ρ).toNat by omega, Nat.add_assoc]
   rcases brec_cases h6 with ⟨hzl, h6⟩ | ⟨_, h6⟩
   ·exact none_ (.refl _) h6 fun {ρ} hρ => ⟨fun _ => rfl, fun hh => absurd (by rw [isZ_ev hzl ρ]; rfl) hh⟩
   rcases brec_cases h6 with ⟨hp1, h6⟩ | ⟨_, h6⟩
   ·exact none_ (.refl _) h6 fun {ρ} hρ => ⟨fun hh => by have := posR_ok hp1 hρ.rg; omega, fun _ => rfl⟩
   obtain ⟨b, pc4, h7, x4, hle4⟩ := leD_inv h6
   refine none_ x4 h7 fun {ρ} hρ => ?_
   have h8 : b = true ↔ (1 : Int) ≤ len.ev ρ := hle4 ρ hρ
   cases b with
   | true => exact ⟨fun hh => by have := h8.1 rfl; omega, fun _ => rfl⟩
   | false => exact ⟨fun _ => rfl, fun hh => by cases h8.2 (by omega)⟩
  ·obtain ⟨n, h7, hn⟩ := mnE_inv h6
   refine some_ x3 h7 fun {ρ} hρ => ⟨(hn ρ hρ.rg).1, ?_⟩
   have h8 : ¬ len.ev ρ ≤ l.ev ρ := fun hh => by cases (hle ρ hρ).2 hh
   obtain ⟨g1, _⟩ := hof ρ (by rw [← x3.rg]; exact hρ.rg)
   have g2 := (hn ρ hρ.rg).2.2
   omega
def SliO (P : Program) (ρ : Nat → Int) (φ : List Pl) (w : World) (T : TypeId) (a : Value) (l hi len : SI) (lo' hi' : Option Value) (u : AV) : Prop :=
 0 ≤ l.ev ρ ∧ 0 ≤ hi.ev ρ ∧ (((lo' = none ∧ (l.ev ρ).toNat = 0) ∨ ∃ k, lo' = some (.int k ((l.ev ρ).toNat : Int))) → ((hi' = none ∧ (hi.ev ρ).toNat = (len.ev ρ).toNat) ∨ ∃ k, hi' = some (.int k ((hi.ev ρ).toNat : Int))) → RunV P φ ρ w (Instr.sliceAt T a lo' hi' none) u)
theorem sslC_sound {T e : TypeId} (hu : P.underlying T = some (.slice e)) (hs : sizeA P e = some 1) {id : Nat} {o0 off len c l hi : SI} {pc : PC} {κ : AV → PC → R} (hD : sslC id off c pc l hi κ ∈ D) :
  ∃ u pc', κ u pc' ∈ D ∧ PcExt pc pc' ∧ ∀ {φ ρ w a lo' hi'}, Holds ρ pc' → conc φ ρ (.ssl id o0 off len (some c)) = some a → SliO P ρ φ w T a l hi len lo' hi' u := by
 obtain ⟨pc2, h2, x2, hord⟩ := ordK_inv hD
 have key : ∀ {u : AV} {pc3 : PC}, PcExt pc2 pc3 → (∀ {φ ρ p}, Holds ρ pc3 → φ[id]? = some p → 0 ≤ l.ev ρ → l.ev ρ ≤ hi.ev ρ → hi.ev ρ ≤ c.ev ρ → conc φ ρ u = some (.slice (some (if (c.ev ρ).toNat = (l.ev ρ).toNat then ⟨p.blk, p.sh + (off.ev ρ).toNat, none⟩ else ⟨p.blk, p.sh + (off.ev ρ).toNat + (l.ev ρ).toNat, none⟩)) ((hi.ev ρ).toNat - (l.ev ρ).toNat) ((c.ev ρ).toNat - (l.ev ρ).toNat))) →
   ∀ {φ ρ w a lo' hi'}, Holds ρ pc3 → conc φ ρ (.ssl id o0 off len (some c)) = some a → SliO P ρ φ w T a l hi len lo' hi' u := by
  intro u pc3 x3 hu3 φ ρ w a lo' hi' hρ ha
  obtain ⟨q1, q2, q3⟩ := hord ρ (hρ.of_ext x3)
  refine ⟨q1, by omega, fun bl bh => ?_⟩
  have hpl : ∃ p, φ[id]? = some p := by
   simp only [conc, Option.map_eq_some_iff] at ha
   obtain ⟨p, hp, _⟩ := ha
   exact ⟨p, hp⟩
  obtain ⟨p, hpl⟩ := hpl
  rw [ssl_some hpl] at ha
  cases ha
  refine ⟨_, hu3 hρ hpl q1 q2 q3, ?_⟩
  rw [sliceAt_run (P := P) hu hs bl bh (by omega) (by omega)]
  simp only [add_plain]
 rcases brec_cases h2 with ⟨hz, h3⟩ | ⟨_, h3⟩
 ·refine ⟨_, pc2, h3, x2, fun {φ ρ w a lo' hi'} => key (.refl _) fun {φ ρ p} hρ hpl q1 q2 q3 => ?_⟩
  rw [ssl_some hpl, isZ_ev hz ρ]
  simp
 ·obtain ⟨b, pc3, h4, x3, hle⟩ := leD_inv h3
  rcases brec_cases h4 with ⟨rfl, h5⟩ | ⟨rfl, h5⟩
  ·refine ⟨_, pc3, h5, x2.trans x3, fun {φ ρ w a lo' hi'} => key x3 fun {φ ρ p} hρ hpl q1 q2 q3 => ?_⟩
   have h7 := (hle ρ hρ).1 rfl
   have e0 : (zeroS.ev ρ).toNat = 0 := rfl
   rw [ssl_some hpl, e0, if_pos (by omega), show (hi.ev ρ).toNat - (l.ev ρ).toNat = 0 by omega, show (c.ev ρ).toNat - (l.ev ρ).toNat = 0 by omega]
  ·obtain ⟨off', h6, hof⟩ := plE_inv h5
   obtain ⟨n, h7, hn⟩ := mnE_inv h6
   obtain ⟨m, h8, hm⟩ := mnE_inv h7
   refine ⟨_, pc3, h8, x2.trans x3, fun {φ ρ w a lo' hi'} => key x3 fun {φ ρ p} hρ hpl q1 q2 q3 => ?_⟩
   have h9 : ¬ c.ev ρ ≤ l.ev ρ := fun hh => by cases (hle ρ hρ).2 hh
   obtain ⟨e1, g1, g2⟩ := hof ρ hρ.rg
   obtain ⟨e2, _, _⟩ := hn ρ hρ.rg
   obtain ⟨e3, _, _⟩ := hm ρ hρ.rg
   rw [ssl_some hpl, e1, e2, e3, if_neg (by omega)]
   rw [show (off.ev ρ + l.ev ρ).toNat = (off.ev ρ).toNat + (l.ev ρ).toNat by omega, show (hi.ev ρ - l.ev ρ).toNat = (hi.ev ρ).toNat - (l.ev ρ).toNat by omega, show (c.ev ρ - l.ev ρ).toNat = (c.ev ρ).toNat - (l.ev ρ).toNat by omega, Nat.add_assoc]
theorem sslM_sound {T e : TypeId} (hu : P.underlying T = some (.slice e)) (hs : sizeA P e = some 1) {id : Nat} {o0 off len l hi m : SI} {pc : PC} {κ : AV → PC → R} (hD : sslM h e id off len pc l hi m κ ∈ D) :
  ∃ u pc', κ u pc' ∈ D ∧ PcExt pc pc' ∧ hi = m ∧ ∀ {φ ρ w a lo' k k'}, Holds ρ pc' → Hp P φ ρ h w → conc φ ρ (.ssl id o0 off len none) = some a → l.ev ρ = 0 ∧ 0 ≤ hi.ev ρ ∧ (((lo' = none ∧ (l.ev ρ).toNat = 0) ∨ ∃ k, lo' = some (.int k ((l.ev ρ).toNat : Int))) → RunV P φ ρ w (Instr.sliceAt T a lo' (some (.int k ((hi.ev ρ).toNat : Int))) (some (.int k' ((hi.ev ρ).toNat : Int)))) u) := by
 obtain ⟨hb, h0⟩ := brec_inv hD
 simp only [Bool.and_eq_true] at hb
 obtain rfl := SI.beq_eq _ _ hb.2
 obtain ⟨pc1, h1, x1, hsp⟩ := spanK_inv hs h0
 rcases brec_cases h1 with ⟨hz, h1⟩ | ⟨_, h1⟩
 ·rw [Bool.and_eq_true] at hz
  obtain ⟨hz1, hz2⟩ := hz
  refine ⟨_, pc1, h1, x1, rfl, fun {φ ρ w a lo' k k'} hρ hp ha => ?_⟩
  have e1 := isZ_ev hz1 ρ
  have hl0 := isZ_ev hb.1 ρ
  refine ⟨hl0, by omega, fun bl => ?_⟩
  have hpl : ∃ p, φ[id]? = some p := by
   simp only [conc, Option.map_eq_some_iff] at ha
   obtain ⟨p, hp, _⟩ := ha
   exact ⟨p, hp⟩
  obtain ⟨p, hpl⟩ := hpl
  rw [ssl_none hpl, if_neg (fun hh => by have := posR_ok hz2 hρ.rg; have := hh.1; omega)] at ha
  cases ha
  refine ⟨_, ssl_some hpl, ?_⟩
  rw [sliceAt_run3 (P := P) hu hs bl (by omega) (Nat.le_refl _) (by omega), hl0, e1]
  rfl
 obtain ⟨pc2, h2, x2, hord⟩ := ordK_inv h1
 refine ⟨_, pc2, h2, x1.trans x2, rfl, fun {φ ρ w a lo' k k'} hρ hp ha => ?_⟩
 obtain ⟨q1, q2, q3⟩ := hord ρ hρ
 have q2 : (1 : Int) ≤ hi.ev ρ := q2
 have hl0 := isZ_ev hb.1 ρ
 refine ⟨hl0, by omega, fun bl => ?_⟩
 have hpl : ∃ p, φ[id]? = some p := by
  simp only [conc, Option.map_eq_some_iff] at ha
  obtain ⟨p, hp, _⟩ := ha
  exact ⟨p, hp⟩
 obtain ⟨p, hpl⟩ := hpl
 obtain ⟨a1, a2, a3, a4⟩ := hsp (hρ.of_ext x2) hp hpl
 have hr := room1 a3 (off.ev ρ).toNat
 rw [ssl_none hpl, if_neg (fun hh => by have := hh.1; omega)] at ha
 cases ha
 refine ⟨_, ssl_some hpl, ?_⟩
 rw [sliceAt_run3 (P := P) hu hs bl (by omega) (Nat.le_refl _) (by omega), hl0]
 rw [if_neg (by simp; omega)]
 simp [add_plain]
theorem fslU_sound {T e : TypeId} (hu : P.underlying T = some (.slice e)) (hs : sizeA P e = some 1) {j : Nat} {o0 off len l hi : SI} {pc : PC} {κ : AV → PC → R} (hD : fslU j o0 off len pc l hi κ ∈ D) :
  ∃ u pc', κ u pc' ∈ D ∧ PcExt pc pc' ∧ ∀ {φ ρ w a lo' hi'}, Holds ρ pc' → conc φ ρ (.fsl j o0 off len) = some a → SliO P ρ φ w T a l hi len lo' hi' u := by
 obtain ⟨e1, h1, he1⟩ := plE_inv hD
 obtain ⟨b, pc1, h2, x1, hle⟩ := leD_inv h1
 obtain ⟨hb, h3⟩ := brec_inv h2
 simp only [Bool.and_eq_true, natBle, natBlt, decide_eq_true_eq] at hb
 obtain ⟨rfl, hj1, hj2⟩ := hb
 obtain ⟨pc2, h4, x2, hord⟩ := ordK_inv h3
 have key : ∀ {u : AV} {pc3 : PC}, PcExt pc2 pc3 → (∀ {φ ρ}, Holds ρ pc3 → ρ (fMark j) = 1 → 0 ≤ ρ j → (ρ j).toNat ≤ (ρ (fCap j)).toNat → 0 ≤ off.ev ρ → 0 ≤ l.ev ρ → l.ev ρ ≤ hi.ev ρ → hi.ev ρ ≤ len.ev ρ → (off.ev ρ).toNat + (len.ev ρ).toNat ≤ (ρ (fCap j)).toNat → conc φ ρ u = some (.slice (some (if (ρ (fCap j)).toNat - (off.ev ρ).toNat = (l.ev ρ).toNat then ⟨(ρ (fBlk j)).toNat, (ρ (fOff j)).toNat + (if (ρ (fCap j)).toNat ≤ (off.ev ρ).toNat then (o0.ev ρ).toNat else (off.ev ρ).toNat), none⟩ else ⟨(ρ (fBlk j)).toNat, (ρ (fOff j)).toNat + (if (ρ (fCap j)).toNat ≤ (off.ev ρ).toNat then (o0.ev ρ).toNat else (off.ev ρ).toNat) + (l.ev ρ).toNat, none⟩)) ((hi.ev ρ).toNat - (l.ev ρ).toNat) ((ρ (fCap j)).toNat - (off.ev ρ).toNat - (l.ev ρ).toNat))) →
   ∀ {φ ρ w a lo' hi'}, Holds ρ pc3 → conc φ ρ (.fsl j o0 off len) = some a → SliO P ρ φ w T a l hi len lo' hi' u := by
  intro u pc3 x3 hu3 φ ρ w a lo' hi' hρ ha
  have hρ2 := hρ.of_ext x3
  obtain ⟨q1, q2, q3⟩ := hord ρ hρ2
  obtain ⟨m1, m2, m3, rfl⟩ := fsl_some ha
  have hl := (hle ρ (hρ2.of_ext x2)).1 rfl
  obtain ⟨f1, f2, f3⟩ := he1 ρ (by rw [← x1.rg, ← x2.rg]; exact hρ2.rg)
  have hl : e1.ev ρ ≤ ρ j := hl
  have hlen : (off.ev ρ).toNat + (len.ev ρ).toNat ≤ (ρ (fCap j)).toNat := by omega
  refine ⟨q1, by omega, fun bl bh => ?_⟩
  refine ⟨_, hu3 hρ m1 m2 m3 f2 q1 q2 q3 hlen, ?_⟩
  rw [sliceAt_run (P := P) hu hs bl bh (by omega) (by omega)]
  simp only [add_plain]
 rcases brec_cases h4 with ⟨hz, h5⟩ | ⟨_, h5⟩
 ·refine ⟨_, pc2, h5, x1.trans x2, fun {φ ρ w a lo' hi'} => key (.refl _) fun {φ ρ} hρ m1 m2 m3 g0 q1 q2 q3 hlen => ?_⟩
  rw [fsl_mk _ _ _ m1 m2 m3, isZ_ev hz ρ]
  simp
 ·obtain ⟨b, pc3, h6, x3, hle1⟩ := leD_inv h5
  obtain ⟨rfl, h7⟩ := brec_inv h6
  obtain ⟨off', h8, hof⟩ := plE_inv h7
  obtain ⟨n, h9, hn⟩ := mnE_inv h8
  refine ⟨_, pc3, h9, (x1.trans x2).trans x3, fun {φ ρ w a lo' hi'} => key x3 fun {φ ρ} hρ m1 m2 m3 g0 q1 q2 q3 hlen => ?_⟩
  have hl1 : (1 : Int) ≤ l.ev ρ := (hle1 ρ hρ).1 rfl
  obtain ⟨e2, _, _⟩ := hof ρ hρ.rg
  obtain ⟨e3, _, _⟩ := hn ρ hρ.rg
  have a1 : (off.ev ρ + l.ev ρ).toNat = (off.ev ρ).toNat + (l.ev ρ).toNat := by omega
  rw [fsl_mk _ _ _ m1 m2 m3, e2, e3, a1, if_neg (show ¬ (ρ (fCap j)).toNat ≤ (off.ev ρ).toNat by omega), show (hi.ev ρ - l.ev ρ).toNat = (hi.ev ρ).toNat - (l.ev ρ).toNat by omega, Nat.sub_sub]
  by_cases hc : (ρ (fCap j)).toNat ≤ (off.ev ρ).toNat + (l.ev ρ).toNat
  ·rw [if_pos hc, if_pos (by omega)]
  ·rw [if_neg hc, if_neg (by omega), Nat.add_assoc]
theorem sliceAt_run0 {T e : TypeId} (hu : P.underlying T = some (.slice e)) (hs : sizeA P e = some 1) {w : World} {p : Option Addr} {cap : Nat} {lo' hi' : Option Value} (bl : (lo' = none ∧ 0 = 0) ∨ ∃ k, lo' = some (.int k ((0 : Nat) : Int))) (bh : (hi' = none ∧ 0 = 0) ∨ ∃ k, hi' = some (.int k ((0 : Nat) : Int))) :
  (Instr.sliceAt T (.slice p 0 cap) lo' hi' none).run P w = .ok (.slice p 0 cap) w := by
 cases p with
 | some A =>
  rw [sliceAt_run hu hs bl bh (Nat.le_refl _) (Nat.zero_le _)]
  by_cases h : cap = 0
  ·rw [if_pos h]; rfl
  ·rw [if_neg h]
   simp [Addr.add]
 | none =>
  simp only [Instr.sliceAt, Sem.run_bind, run_underlying hu, Result.andThen_ok, Instr.slice, sliceBounds_run bl bh (Nat.le_refl _) (Nat.zero_le _), run_size hs, Sem.run_pure]
  simp
theorem sliceR_sound {T : TypeId} {x : AV} {lo hi mx : Option AV} {pc : PC} {κ : AV → PC → R} (hD : sliceR P T h pc x lo hi mx κ ∈ D) :
  ∃ u pc', κ u pc' ∈ D ∧ PcExt pc pc' ∧ ∀ {φ ρ w a lo' hi' mx'}, Holds ρ pc' → Hp P φ ρ h w → conc φ ρ x = some a → OptOk φ ρ lo lo' → OptOk φ ρ hi hi' → OptOk φ ρ mx mx' → RunV P φ ρ w (Instr.sliceAt T a lo' hi' mx') u := by
 obtain ⟨d, hd, h1⟩ := optK_inv hD
 split at h1
 rotate_left
 ·cases h1
 rename_i e s
 obtain ⟨hs1, h2⟩ := brec_inv h1
 rw [natBeq, decide_eq_true_eq] at hs1
 subst hs1
 obtain ⟨hu, hs⟩ := ixOf_sli hd
 obtain ⟨l, h3, hl⟩ := optS_inv h2
 -- without a third bound
 have two : ∀ {id : Nat} {y : AV} {len hi0 : SI} {u : AV} {φ : List Pl} {ρ : Nat → Int} {w : World} {a : Value} {lo' hi' : Option Value}, ((hi = none ∧ hi0 = len) ∨ ∃ k, hi = some (.int k hi0)) → (SliO P ρ φ w T a l hi0 len lo' hi' u) → OptOk φ ρ lo lo' → OptOk φ ρ hi hi' → RunV P φ ρ w (Instr.sliceAt T a lo' hi' none) u := by
  intro id y len hi0 u φ ρ w a lo' hi' hh hS o1 o2
  exact hS.2.2 (optS_bound o1 hl hS.1 rfl) (optS_bound o2 hh hS.2.1 rfl)
 split at h3
 ·rename_i id o0 off len
  obtain ⟨hi0, h4, hh⟩ := optS_inv h3
  split at h4
  ·obtain ⟨u, pc', h5, hx, h6⟩ := sslU_sound hu hs h4
   refine ⟨u, pc', h5, hx, fun {φ ρ w a lo' hi' mx'} hρ hp ha o1 o2 o3 => ?_⟩
   cases o3
   exact two (id := 0) (y := undefA) hh (h6 hρ hp ha) o1 o2
  ·rename_i m
   obtain ⟨hB, h4⟩ := brec_inv h4
   obtain ⟨km, m', rfl, h5⟩ := intV_inv h4
   obtain ⟨u, pc', h6, hx, rfl, h7⟩ := sslM_sound (o0 := o0) hu hs h5
   refine ⟨u, pc', h6, hx, fun {φ ρ w a lo' hi' mx'} hρ hp ha o1 o2 o3 => ?_⟩
   cases o3 with
   | yes o3 =>
    simp only [conc, Option.some.injEq] at o3
    subst o3
    rcases hh with ⟨rfl, rfl⟩ | ⟨k, rfl⟩
    ·cases hB
    ·cases o2 with
     | yes o2 =>
      simp only [conc, Option.some.injEq] at o2
      subst o2
      obtain ⟨z1, z2, z3⟩ := h7 (w := w) (lo' := lo') (k := k) (k' := km) hρ hp ha
      have := z3 (optS_bound o1 hl (by omega) rfl)
      rwa [show ((hi0.ev ρ).toNat : Int) = hi0.ev ρ by omega] at this
 ·rename_i id o0 off len c
  obtain ⟨hi0, h4, hh⟩ := optS_inv h3
  split at h4
  ·obtain ⟨u, pc', h5, hx, h6⟩ := sslC_sound (o0 := o0) (len := len) hu hs h4
   refine ⟨u, pc', h5, hx, fun {φ ρ w a lo' hi' mx'} hρ hp ha o1 o2 o3 => ?_⟩
   cases o3
   exact two (id := 0) (y := undefA) hh (h6 hρ ha) o1 o2
  ·cases h4
 ·rename_i id off len
  obtain ⟨hi0, h4, hh⟩ := optS_inv h3
  split at h4
  ·obtain ⟨u, pc', h5, hx, h6⟩ := sslU_sound hu hs h4
   refine ⟨u, pc', h5, hx, fun {φ ρ w a lo' hi' mx'} hρ hp ha o1 o2 o3 => ?_⟩
   cases o3
   rw [sl_ssl] at ha
   exact two (id := 0) (y := undefA) hh (h6 hρ hp ha) o1 o2
  ·rename_i m
   obtain ⟨hB, h4⟩ := brec_inv h4
   obtain ⟨km, m', rfl, h5⟩ := intV_inv h4
   obtain ⟨u, pc', h6, hx, rfl, h7⟩ := sslM_sound (o0 := natS off) hu hs h5
   refine ⟨u, pc', h6, hx, fun {φ ρ w a lo' hi' mx'} hρ hp ha o1 o2 o3 => ?_⟩
   rw [sl_ssl] at ha
   cases o3 with
   | yes o3 =>
    simp only [conc, Option.some.injEq] at o3
    subst o3
    rcases hh with ⟨rfl, rfl⟩ | ⟨k, rfl⟩
    ·cases hB
    ·cases o2 with
     | yes o2 =>
      simp only [conc, Option.some.injEq] at o2
      subst o2
      obtain ⟨z1, z2, z3⟩ := h7 (w := w) (lo' := lo') (k := k) (k' := km) hρ hp ha
      have := z3 (optS_bound o1 hl (by omega) rfl)
      rwa [show ((hi0.ev ρ).toNat : Int) = hi0.ev ρ by omega] at this
 ·rename_i id off len c
  obtain ⟨hi0, h4, hh⟩ := optS_inv h3
  split at h4
  ·obtain ⟨u, pc', h5, hx, h6⟩ := sslC_sound (o0 := natS off) (len := natS len) hu hs h4
   refine ⟨u, pc', h5, hx, fun {φ ρ w a lo' hi' mx'} hρ hp ha o1 o2 o3 => ?_⟩
   cases o3
   rw [sl_ssl'] at ha
   exact two (id := 0) (y := undefA) hh (h6 hρ ha) o1 o2
  ·cases h4
 ·rename_i j o0 off len
  obtain ⟨hi0, h4, hh⟩ := optS_inv h3
  split at h4
  ·obtain ⟨u, pc', h5, hx, h6⟩ := fslU_sound hu hs h4
   refine ⟨u, pc', h5, hx, fun {φ ρ w a lo' hi' mx'} hρ hp ha o1 o2 o3 => ?_⟩
   cases o3
   exact two (id := 0) (y := undefA) hh (h6 hρ ha) o1 o2
  ·cases h4
 ·rename_i p k c
  obtain ⟨hi0, h4, hh⟩ := optS_inv h3
  split at h4
  ·obtain ⟨hb, h5⟩ := brec_inv h4
   simp only [Bool.and_eq_true] at hb
   obtain ⟨h6, h7, h8⟩ := hb
   refine ⟨_, _, h5, .refl _, fun {φ ρ w a lo' hi' mx'} hρ hp ha o1 o2 o3 => ?_⟩
   cases o3
   obtain ⟨p', k', c', e', h9⟩ := osl0_ev h6
   cases e'
   have hv := h9 hρ.rg ha
   have e1 := nilR_ev h7 hρ.rg
   have e2 := nilR_ev h8 hρ.rg
   have b1 := optS_bound o1 hl (by omega) (show (zeroS.ev ρ).toNat = 0 from rfl)
   have b2 := optS_bound o2 hh (by omega) (show (zeroS.ev ρ).toNat = 0 from rfl)
   rw [e1] at b1
   rw [e2] at b2
   refine ⟨a, ha, ?_⟩
   rw [hv]
   exact sliceAt_run0 hu hs (by simpa using b1) (by simpa using b2)
  ·cases h4
 ·cases h3
theorem sliceX_sound {T : TypeId} {x : AV} {lo hi mx : Option AV} {pc : PC} {κ : AV → PC → R} (hD : sliceX P T h pc x lo hi mx κ ∈ D) :
  ∃ u pc', κ u pc' ∈ D ∧ PcExt pc pc' ∧ ∀ {φ ρ w a lo' hi' mx'}, Holds ρ pc' → Hp P φ ρ h w → conc φ ρ x = some a → OptOk φ ρ lo lo' → OptOk φ ρ hi hi' → OptOk φ ρ mx mx' → RunV P φ ρ w (Instr.sliceAt T a lo' hi' mx') u := by
 rcases brec_cases hD with ⟨_, h1⟩ | ⟨_, h1⟩
 ·obtain ⟨u, h2, h3⟩ := slice_sound h1
  exact ⟨u, pc, h2, .refl _, fun _ hp ha o1 o2 o3 => h3 hp ha o1 o2 o3⟩
 ·exact sliceR_sound h1
theorem ix01_inv {pc : PC} {i : AV} {κ : AV → PC → R} (hD : ix01 pc i κ ∈ D) : ∃ i' pc', κ i' pc' ∈ D ∧ PcExt pc pc' ∧ ∀ {φ ρ b}, Holds ρ pc' → conc φ ρ i = some b → conc φ ρ i' = some b := by
 unfold ix01 at hD
 split at hD
 ·rename_i k e
  rcases brec_cases hD with ⟨hb, h1⟩ | ⟨_, h1⟩
  ·obtain ⟨b, pc', h2, x1, h3⟩ := decK_inv h1
   refine ⟨_, pc', h2, x1, fun {φ ρ v} hρ hv => ?_⟩
   have hh := hρ.of_ext x1
   have hi := rngS_in hh.rg e
   unfold in01 at hb
   split at hb
   ·rename_i l h hg
    simp only [Bool.and_eq_true, beqF_eq, decide_eq_true_eq] at hb
    obtain ⟨h4, h5⟩ := hi l h hg
    rw [hb.1] at h4
    rw [hb.2] at h5
    have h4 : (0 : Int) ≤ e.ev ρ := h4
    have h5 : e.ev ρ ≤ 1 := h5
    have h6 := h3 ρ hρ
    have h7 : (e.ev ρ == (0 : Int)) = b := h6
    cases b with
    | true =>
     have : e.ev ρ = 0 := by simpa using h7
     simp only [conc, this] at hv
     exact hv
    | false =>
     have : e.ev ρ ≠ 0 := by simpa using h7
     have : e.ev ρ = 1 := by omega
     simp only [conc, this] at hv
     exact hv
   ·cases hb
  ·exact ⟨_, pc, h1, .refl _, fun _ hv => hv⟩
 ·exact ⟨_, pc, hD, .refl _, fun _ hv => hv⟩
theorem ixX_sound {T : TypeId} {x i : AV} {pc : PC} {κ : AV → PC → R} (hD : ixX P T pc x i κ ∈ D) : ∃ u pc', κ u pc' ∈ D ∧ PcExt pc pc' ∧ ∀ {φ ρ w a b}, Holds ρ pc' → conc φ ρ x = some a → conc φ ρ i = some b → RunV P φ ρ w (Instr.indexAt T a b) u := by
 rcases brec_cases hD with ⟨_, h1⟩ | ⟨_, h1⟩
 ·obtain ⟨d, hd, h2⟩ := optK_inv h1
  split at h2
  rotate_left
  ·cases h2
  rename_i e s
  split at h2
  rotate_left
  ·cases h2
  rename_i id o0 off len cap _
  obtain ⟨k, n, rfl, h3⟩ := asNat_inv h2
  obtain ⟨o1, rfl, h4⟩ := litN_inv h3
  obtain ⟨hs1, h5⟩ := brec_inv h4
  rw [natBeq, decide_eq_true_eq] at hs1
  subst hs1
  obtain ⟨hu, hs⟩ := ixOf_sli hd
  obtain ⟨b, pc', h6, hx, hle⟩ := leD_inv h5
  obtain ⟨rfl, h7⟩ := brec_inv h6
  rw [forceN_eq] at h7
  refine ⟨_, pc', h7, hx, fun {φ ρ w a b} hρ ha hb => ?_⟩
  simp only [conc, SI.ev, Option.some.injEq] at hb
  subst hb
  have hlt : ((n + 1 : Nat) : Int) ≤ len.ev ρ := (hle ρ hρ).1 rfl
  have hpl : ∃ p, φ[id]? = some p := by
   simp only [conc, Option.map_eq_some_iff] at ha
   obtain ⟨p, hp, _⟩ := ha
   exact ⟨p, hp⟩
  obtain ⟨p, hpl⟩ := hpl
  refine ⟨.pointer (some ⟨p.blk, p.sh + (o1 + n), none⟩), by simp only [conc, hpl, Option.map_some]; rfl, ?_⟩
  have h8 : (n : Int) < ((len.ev ρ).toNat : Int) := by omega
  have go : ∀ {m : Nat}, a = .slice (some ⟨p.blk, p.sh + o1, none⟩) (len.ev ρ).toNat m → (Instr.indexAt T a (.int k (Int.ofNat n))).run P w = .ok (.pointer (some ⟨p.blk, p.sh + (o1 + n), none⟩)) w := by
   rintro m rfl
   simp [Instr.indexAt, asIntOf, Sem.run_bind, run_underlying hu, run_size hs, add_plain, Nat.add_assoc, h8]
   intro hle; omega
  cases cap with
  | some c =>
   rw [ssl_some hpl] at ha
   cases ha
   exact go rfl
  | none =>
   rw [ssl_none hpl, if_neg (fun hh => by have := hh.1; omega)] at ha
   cases ha
   exact go rfl
 ·obtain ⟨i', pc', h2, x1, hi⟩ := ix01_inv h1
  obtain ⟨u, h3, h4⟩ := ixAddr_sound h2
  exact ⟨u, pc', h3, x1, fun hρ ha hb => h4 ha (hi hρ hb)⟩
end
end Go.Proofs.YtooebogidjejoaaGreat
namespace Go.Proofs.YtooebogidjejoaaGreat
open Go
section
variable {P : Program} {D : Dn} {h : Tr AObj}
def KeyVal (d : KeyD) (a : Value) : Prop := match d with
 | .int => ∃ k n, a = .int k n
 | .str => ∃ s, a = .string s
 | .flat n => ∃ xs : List Value, a = .agg xs.toArray ∧ xs.length = n
def KeyCmp (d : KeyD) (a b : Value) (r : Bool) : Prop := match d with
 | .int => RowCmp [a] [b] r
 | .str => ∃ s t : ByteArray, a = .string s ∧ b = .string t ∧ r = (s.toList == t.toList)
 | .flat _ => ∃ xs ys : List Value, a = .agg xs.toArray ∧ b = .agg ys.toArray ∧ RowCmp xs ys r
theorem KeyCmp.same {d : KeyD} {a b : Value} (h : KeyCmp d a b true) : a = b := by
 cases d with
 | int => have := (show RowCmp [a] [b] true from h).same.1; simpa using this
 | str =>
  obtain ⟨s, t, rfl, rfl, e⟩ := h
  have e : s.toList = t.toList := by simpa using e.symm
  rw [ByteArray.toList_eq, ByteArray.toList_eq] at e
  obtain ⟨⟨x⟩⟩ := s
  obtain ⟨⟨y⟩⟩ := t
  simp only at e
  rw [e]
 | flat n =>
  obtain ⟨xs, ys, rfl, rfl, h⟩ := h
  rw [h.same.1]
theorem RowCmp.bits {xs : List Value} (h : ∀ v ∈ xs, ∃ k n, v = Value.int k n) (n : Nat) : ((xs.zip xs).all fun (x, y) => Instr.sameBits (n + 1) x y) = true := by
 induction xs with
 | nil => rfl
 | cons x xs ih =>
  obtain ⟨k, m, rfl⟩ := h x (by simp)
  simp only [List.zip_cons_cons, List.all_cons, Bool.and_eq_true]
  exact ⟨by simp [Instr.sameBits], ih fun v hv => h v (by simp [hv])⟩
theorem KeyCmp.stays {d : KeyD} {a b : Value} (h : KeyCmp d a b true) {w : World} : (Instr.keyThatStays b a).run P w = .ok a w := by
 have hs := h.same
 subst hs
 have : Instr.sameBits 10000 a a = true := by
  cases d with
  | int =>
   obtain ⟨k, n, e⟩ := (show RowCmp [a] [a] true from h).same.2 a (by simp)
   rw [e]
   simp [Instr.sameBits]
  | str =>
   obtain ⟨s, t, rfl, _, _⟩ := h
   rw [show (10000 : Nat) = 9999 + 1 from rfl]
   simp only [Instr.sameBits]
   obtain ⟨⟨x⟩⟩ := s
   show ((⟨x⟩ : Array UInt8) == ⟨x⟩) = true
   simp
  | flat n =>
   obtain ⟨xs, ys, rfl, _, h⟩ := h
   have := RowCmp.bits h.same.2 9998
   rw [show (10000 : Nat) = 9999 + 1 from rfl, Instr.sameBits]
   simp only [beq_self_eq_true, Bool.true_and]
   exact this
 simp [Instr.keyThatStays, this]
theorem keyD_cases {K : TypeId} {d : KeyD} (h : keyD P K = some d) : (d = .int ∧ plainInt P K = true) ∨ (d = .str ∧ P.underlying K = some .string) ∨ ∃ n, d = .flat n ∧ flatT P K = some n := by
 unfold keyD at h
 split at h
 ·rename_i k hu
  cases h
  exact .inl ⟨rfl, by simp [plainInt, hu]⟩
 ·rename_i hu
  cases h
  exact .inr (.inl ⟨rfl, hu⟩)
 ·split at h
  ·rename_i n hn
   cases h
   exact .inr (.inr ⟨n, rfl, hn⟩)
  ·cases h
theorem check_run {K : TypeId} {d : KeyD} (hK : keyD P K = some d) {a : Value} (ha : KeyVal d a) {e : Bool} {w : World} : (Instr.checkKey e 10000 K a).run P w = .ok () w := by
 rcases keyD_cases hK with ⟨rfl, h⟩ | ⟨rfl, h⟩ | ⟨n, rfl, h⟩
 ·exact checkKey_int h
 ·rw [show (10000 : Nat) = 9999 + 1 from rfl, Instr.checkKey, Sem.run_bind, run_underlying h]
  rfl
 ·obtain ⟨xs, rfl, hx⟩ := ha
  exact checkKey_flat h hx
theorem run_findKey_wide {k : TypeId} (hwide : (match P.underlying k with | some (.array _ _) | some (.struct _) => true | _ => false) = true) (x : Value) (es : List MapEntry) {w : World} :
  (Instr.findKey k x es).run P w = (Instr.findAsking k x es).run P w := by
 cases hu : P.underlying k with
 | none => simp [hu] at hwide
 | some kd =>
  cases es with
  | nil => simp [Instr.findKey, run_underlying hu, Instr.findNow, Instr.findAsking]
  | cons e es => cases kd <;> simp [hu] at hwide <;> simp [Instr.findKey, run_underlying hu, Instr.findNow, Instr.sameNow]
inductive Scan (d : KeyD) (a : Value) : List MapEntry → Nat → Option (Nat × Value) → Prop
 | nil {i : Nat} : Scan d a [] i none
 | hit {e : MapEntry} {es : List MapEntry} {i : Nat} (h : KeyCmp d a e.key true) : Scan d a (e :: es) i (some (i, e.val))
 | miss {e : MapEntry} {es : List MapEntry} {i : Nat} {r : Option (Nat × Value)} (h : KeyCmp d a e.key false) (hs : Scan d a es (i + 1) r) : Scan d a (e :: es) i r
theorem Scan.at {d : KeyD} {a : Value} : ∀ {es : List MapEntry} {i j : Nat} {v : Value}, Scan d a es i (some (j, v)) → i ≤ j ∧ ∃ e, es[j - i]? = some e ∧ e.val = v ∧ KeyCmp d a e.key true
 | _, i, _, _, .hit (e := e) h => ⟨Nat.le_refl _, e, by simp, rfl, h⟩
 | _, i, j, _, .miss h hs => by
  obtain ⟨h1, e, h2, h3, h4⟩ := hs.at
  exact ⟨by omega, e, by rw [show j - i = (j - (i + 1)) + 1 by omega]; simpa using h2, h3, h4⟩
theorem Scan.now {kd : TypeDesc} {d : KeyD} {a : Value} (hs : ∀ b r, KeyCmp d a b r → Instr.sameNow kd a b = some r) : ∀ {es : List MapEntry} {i : Nat} {r : Option (Nat × Value)}, Scan d a es i r → Instr.findNow kd a es i = some r
 | _, _, _, .nil => rfl
 | _, _, _, .hit h => by simp [Instr.findNow, hs _ _ h]
 | _, _, _, .miss h h2 => by simp only [Instr.findNow, hs _ _ h]; exact Scan.now hs h2
theorem Scan.asks {K : TypeId} {d : KeyD} {a : Value} {w : World} (hs : ∀ b r, KeyCmp d a b r → (Op.equal K a b).run P w = .ok r w) : ∀ {es : List MapEntry} {i : Nat} {r : Option (Nat × Value)}, Scan d a es i r → (Instr.findAsking K a es i).run P w = .ok r w
 | _, _, _, .nil => rfl
 | _, _, _, .hit h => by simp [Instr.findAsking, Sem.run_bind, hs _ _ h]
 | _, _, _, .miss h h2 => by simp [Instr.findAsking, Sem.run_bind, hs _ _ h, Scan.asks hs h2]
theorem find_run {K : TypeId} {d : KeyD} (hK : keyD P K = some d) {a : Value} (ha : KeyVal d a) {es : List MapEntry} {r : Option (Nat × Value)} (hs : Scan d a es 0 r) {w : World} : (Instr.findKey K a es).run P w = .ok r w := by
 rcases keyD_cases hK with ⟨rfl, h⟩ | ⟨rfl, h⟩ | ⟨n, rfl, h⟩
 ·obtain ⟨k, hk⟩ := plainInt_und h
  have := hs.now (kd := .int k) fun b r hc => by
   cases hc with
   | ne h => simp [Instr.sameNow, h]
   | eq h => cases h; simp [Instr.sameNow]
  simp [Instr.findKey, Sem.run_bind, run_underlying hk, this]
 ·have := hs.now (kd := .string) fun b r hc => by
   obtain ⟨s, t, rfl, rfl, rfl⟩ := hc
   simp [Instr.sameNow, beq_toListBytes]
  simp [Instr.findKey, Sem.run_bind, run_underlying h, this]
 ·have hwide : (match P.underlying K with | some (.array _ _) | some (.struct _) => true | _ => false) = true := by
   rcases flatT_cases h with ⟨fs, hu, _⟩ | ⟨e, hu, _⟩ <;> rw [hu]
  obtain ⟨xs, rfl, hx⟩ := ha
  rw [run_findKey_wide hwide]
  refine hs.asks fun b r hc => ?_
  obtain ⟨us, vs, e1, rfl, hc⟩ := hc
  have e1 : xs = us := by
   have := Value.agg.inj e1
   exact List.toArray_inj this
  subst e1
  exact equal_flat h hx hc
theorem rawV_inv {v : AV} {n : Nat} {κ : Value → R} (h : rawV v n κ ∈ D) : ∃ x, v = .raw x ∧ κ x ∈ D := by
 unfold rawV at h
 split at h
 ·exact ⟨_, rfl, h⟩
 ·cases h
theorem keyOk_inv {d : KeyD} {k : AV} {κ : R} (hD : keyOk d k κ ∈ D) : κ ∈ D ∧ ∀ {φ ρ a}, conc φ ρ k = some a → KeyVal d a := by
 cases d with
 | int =>
  obtain ⟨kd, e, rfl, h1⟩ := intV_inv (show intV k (nat_lit 91) (fun _ _ => κ) ∈ D from hD)
  exact ⟨h1, fun {φ ρ a} h => by simp only [conc, Option.some.injEq] at h; exact ⟨_, _, h.symm⟩⟩
 | str =>
  obtain ⟨x, rfl, h1⟩ := rawV_inv (show rawV k (nat_lit 92) (fun v => strV v (nat_lit 92) κ) ∈ D from hD)
  unfold strV at h1
  split at h1
  ·exact ⟨h1, fun {φ ρ a} h => by simp only [conc, Option.some.injEq] at h; exact ⟨_, h.symm⟩⟩
  ·cases h1
 | flat n =>
  obtain ⟨l, rfl, h1⟩ := aggV_inv (show aggV k (nat_lit 93) (fun l => Bool.rec (motive := fun _ => R) (.fail 94) κ (Nat.beq (lenC l) n)) ∈ D from hD)
  obtain ⟨hb, h2⟩ := brec_inv h1
  rw [natBeq, decide_eq_true_eq, lenC_eq] at hb
  refine ⟨h2, fun {φ ρ a} h => ?_⟩
  obtain ⟨xs, hx, rfl⟩ := conc_agg' h
  exact ⟨xs, rfl, (concL_length hx).trans hb⟩
theorem keyEq_inv {d : KeyD} {x y : AV} {pc : PC} {κ : Bool → PC → R} (hD : keyEq d x y pc κ ∈ D) : ∃ b pc', κ b pc' ∈ D ∧ PcExt pc pc' ∧ ∀ {φ ρ a c}, Holds ρ pc' → conc φ ρ x = some a → conc φ ρ y = some c → KeyCmp d a c b := by
 cases d with
 | int =>
  obtain ⟨b, pc', h1, h2, h3⟩ := eqCells_inv (show eqCells [x] [y] pc κ ∈ D from hD)
  exact ⟨b, pc', h1, h2, fun {φ ρ a c} hρ hx hy => h3 hρ (concL_cons.2 ⟨a, [], hx, rfl, rfl⟩) (concL_cons.2 ⟨c, [], hy, rfl, rfl⟩)⟩
 | str =>
  obtain ⟨v, rfl, h1⟩ := rawV_inv (show rawV x (nat_lit 92) (fun v => rawV y (nat_lit 92) fun w => strEq v w fun b => forceB b fun b => κ b pc) ∈ D from hD)
  obtain ⟨u, rfl, h2⟩ := rawV_inv h1
  unfold strEq at h2
  split at h2
  ·split at h2
   ·simp only [forceB_eq] at h2
    refine ⟨_, pc, h2, .refl _, fun {φ ρ a c} _ hx hy => ?_⟩
    simp only [conc, Option.some.injEq] at hx hy
    exact ⟨_, _, hx.symm, hy.symm, by rw [ByteArray.toList_eq, ByteArray.toList_eq]⟩
   ·cases h2
  ·cases h2
 | flat n =>
  obtain ⟨l, rfl, h1⟩ := aggV_inv (show aggV x (nat_lit 93) (fun l => aggV y (nat_lit 93) fun m => eqCells l m pc κ) ∈ D from hD)
  obtain ⟨m, rfl, h2⟩ := aggV_inv h1
  obtain ⟨b, pc', h3, h4, h5⟩ := eqCells_inv h2
  refine ⟨b, pc', h3, h4, fun {φ ρ a c} hρ hx hy => ?_⟩
  obtain ⟨xs, hx', rfl⟩ := conc_agg' hx
  obtain ⟨ys, hy', rfl⟩ := conc_agg' hy
  exact ⟨xs, ys, rfl, rfl, h5 hρ hx' hy'⟩
def FoundOk (φ : List Pl) (ρ : Nat → Int) : Option (Nat × AV) → Option (Nat × Value) → Prop
 | none, none => True
 | some (i, v), some (j, x) => i = j ∧ conc φ ρ v = some x
 | _, _ => False
theorem findK_inv {d : KeyD} {k : AV} : ∀ {es : List (AV × AV × Nat)} {i : Nat} {pc : PC} {κ : Option (Nat × AV) → PC → R}, findK d k es i pc κ ∈ D → ∃ r pc', κ r pc' ∈ D ∧ PcExt pc pc' ∧ ∀ {φ ρ a ms}, Holds ρ pc' → conc φ ρ k = some a → EntOk φ ρ es ms → ∃ r', FoundOk φ ρ r r' ∧ Scan d a ms i r'
 | [], i, pc, κ, hD => ⟨none, pc, hD, .refl _, fun {φ ρ a ms} _ _ he => by cases he; exact ⟨none, trivial, .nil⟩⟩
 | e :: es, i, pc, κ, hD => by
  obtain ⟨b, pc1, h1, x1, h2⟩ := keyEq_inv (show keyEq d k e.1 pc (fun b pc => Bool.rec (motive := fun _ => R) (findK d k es (Nat.succ i) pc κ) (κ (some (i, e.2.1)) pc) b) ∈ D from hD)
  rcases brec_cases h1 with ⟨rfl, h3⟩ | ⟨rfl, h3⟩
  ·refine ⟨_, pc1, h3, x1, fun {φ ρ a ms} hρ ha he => ?_⟩
   cases he with
   | cons hk hv he => exact ⟨some (i, _), ⟨rfl, hv⟩, .hit (h2 hρ ha hk)⟩
  ·obtain ⟨r, pc2, h4, x2, h5⟩ := findK_inv h3
   refine ⟨r, pc2, h4, x1.trans x2, fun {φ ρ a ms} hρ ha he => ?_⟩
   cases he with
   | cons hk hv he =>
    obtain ⟨r', q1, q2⟩ := h5 hρ ha he
    exact ⟨r', q1, .miss (h2 (hρ.of_ext x2) ha hk) q2⟩
theorem mapTyA_und {T : TypeId} {p : KeyD × TypeId} (hm : mapTyA P T = some p) : ∃ k, P.underlying T = some (.map k p.2) ∧ keyD P k = some p.1 := by
 unfold mapTyA at hm
 split at hm
 ·rename_i k e hu
  simp only [Option.map_eq_some_iff] at hm
  obtain ⟨kd, h1, rfl⟩ := hm
  exact ⟨k, hu, h1⟩
 ·cases hm
theorem zero_conc {T : TypeId} {z : AV} (hz : zeroA P T = some z) {w : World} {φ : List Pl} {ρ : Nat → Int} : ∃ v, (zeroValue T).run P w = .ok v w ∧ conc φ ρ z = some v := by
 obtain ⟨v, h1, rfl⟩ := run_zero hz
 exact ⟨v, h1, conc_ofValue v⟩
theorem lkE_inv {ok : Bool} {e : TypeId} {κ : AV → PC → R} {r : Option (Nat × AV)} {pc : PC} (hD : lkE P ok e κ r pc ∈ D) : ∃ u, κ u pc ∈ D ∧ ∀ {φ ρ w r'}, FoundOk φ ρ r r' → ∃ x, conc φ ρ u = some x ∧
  (do let (v, ok') ← (match r' with | some (_, v) => pure (v, true) | none => do pure (← zeroValue e, false) : Sem (Value × Bool)); pure (if ok then .tuple #[v, .bool ok'] else v) : Sem Value).run P w = .ok x w := by
 unfold lkE at hD
 cases r with
 | some q =>
  obtain ⟨j, v⟩ := q
  refine ⟨_, hD, fun {φ ρ w r'} hr => ?_⟩
  cases r' with
  | none => exact hr.elim
  | some q' =>
   obtain ⟨j', y⟩ := q'
   have hy : conc φ ρ v = some y := hr.2
   cases ok
   ·exact ⟨y, hy, by simp [Sem.run_bind]⟩
   ·exact ⟨.tuple #[y, .bool true], by simp [conc, concL, hy, SB.ev], by simp [Sem.run_bind]⟩
 | none =>
  obtain ⟨z, hz, h1⟩ := optK_inv hD
  refine ⟨_, h1, fun {φ ρ w r'} hr => ?_⟩
  cases r' with
  | some q' => exact hr.elim
  | none =>
   obtain ⟨zv, hzr, hzc⟩ := zero_conc hz (w := w) (φ := φ) (ρ := ρ)
   cases ok
   ·exact ⟨zv, hzc, by simp [Sem.run_bind, hzr]⟩
   ·exact ⟨.tuple #[zv, .bool false], by simp [conc, concL, hzc, SB.ev], by simp [Sem.run_bind, hzr]⟩
theorem look_sound {T : TypeId} {x i : AV} {ok : Bool} {pc : PC} {κ : AV → PC → R} (hD : lookA P T h x i ok pc κ ∈ D) : ∃ u pc', κ u pc' ∈ D ∧ PcExt pc pc' ∧ ∀ {φ ρ w a b}, Holds ρ pc' → Hp P φ ρ h w → conc φ ρ x = some a → conc φ ρ i = some b → RunV P φ ρ w (Instr.lookup T a b ok) u := by
 obtain ⟨p, hp, h1⟩ := optK_inv hD
 obtain ⟨key, hu, hk⟩ := mapTyA_und hp
 obtain ⟨h2, hkv⟩ := keyOk_inv h1
 split at h2
 ·rename_i id
  obtain ⟨es, c, hg, h3⟩ := mapK_inv h2
  obtain ⟨r, pc', h4, x1, h5⟩ := findK_inv h3
  obtain ⟨u, h6, h7⟩ := lkE_inv h4
  refine ⟨u, pc', h6, x1, fun {φ ρ w a b} hρ hH ha hb => ?_⟩
  obtain ⟨pl, xs, hpl, hx, he⟩ := hH.obj _ _ hg
  simp only [conc, hpl, Option.map_some, Option.some.injEq] at ha
  subst ha
  obtain ⟨r', q1, q2⟩ := h5 hρ hb he
  obtain ⟨y, hy, hrun⟩ := h7 (w := w) q1
  refine ⟨y, hy, ?_⟩
  rw [← hrun]
  simp [Instr.lookup, Sem.run_bind, run_underlying hu, getObj_map hx, check_run hk (hkv hb), find_run hk (hkv hb) q2]
  cases r' with
  | none => simp [Sem.run_bind]; cases (zeroValue p.2).run P w <;> rfl
  | some q => simp [Sem.run_bind]
 ·obtain ⟨u, h6, h7⟩ := lkE_inv h2
  refine ⟨u, pc, h6, .refl _, fun {φ ρ w a b} hρ hH ha hb => ?_⟩
  simp only [conc, Option.some.injEq] at ha
  subst ha
  obtain ⟨y, hy, hrun⟩ := h7 (w := w) (r' := none) trivial
  refine ⟨y, hy, ?_⟩
  rw [← hrun]
  simp [Instr.lookup, Sem.run_bind, run_underlying hu, check_run hk (hkv hb), find_run hk (hkv hb) (.nil : Scan p.1 b [] 0 none)]
 ·cases h2
theorem rawOk_cells {v : Value} (hr : rawOk v = true) : v.cells = #[v] := by cases v <;> first | rfl | (cases hr; done)
theorem cells_one {v : AV} (h : match v with | .agg _ | .tup _ | .opq _ | .raw _ | .dfr _ _ _ => False | _ => True) {φ : List Pl} {ρ : Nat → Int} {x : Value} (hx : conc φ ρ v = some x) : concL φ ρ [v] = some x.cells.toList := by
 have hc : x.cells = #[x] := by
  cases v <;> simp only [conc, Option.map_eq_some_iff, Option.bind_eq_some_iff, Option.some.injEq] at hx
  case int => subst hx; rfl
  case bool => subst hx; rfl
  case ptr => obtain ⟨p, _, rfl⟩ := hx; rfl
  case sl => obtain ⟨p, _, rfl⟩ := hx; rfl
  case emp => obtain ⟨p, _, rfl⟩ := hx; split <;> rfl
  case em0 => obtain ⟨p, _, rfl⟩ := hx; rfl
  case map => obtain ⟨p, _, rfl⟩ := hx; rfl
  case fn => obtain ⟨p, _, q, _, rfl⟩ := hx; rfl
  case iface => obtain ⟨p, _, rfl⟩ := hx; rfl
  case agg => exact h.elim
  case tup => exact h.elim
  case raw => exact h.elim
  case opq => exact h.elim
  case osl => subst hx; rfl
  case dfr => exact h.elim
  case ssl cap => obtain ⟨p, _, rfl⟩ := hx; cases cap with | some c => rfl | none => dsimp only; split <;> rfl
  case fsl => split at hx <;> cases hx; rfl
 rw [hc]
 exact concL_cons.2 ⟨x, [], hx, rfl, rfl⟩
theorem cellsK_inv {n : Nat} {v : AV} {κ : List AV → R} (hD : cellsK (.fail n) v κ ∈ D) : ∃ l, κ l ∈ D ∧ ∀ {φ ρ x}, conc φ ρ v = some x → concL φ ρ l = some x.cells.toList := by
 cases v
 case agg l =>
  refine ⟨_, hD, fun {φ ρ x} hx => ?_⟩
  obtain ⟨xs, hxs, rfl⟩ := conc_agg hx
  simpa [Value.cells] using hxs
 case tup => cases hD
 case opq => cases hD
 case dfr => cases hD
 case raw v =>
  obtain ⟨hr, h1⟩ := brec_inv (show Bool.rec (motive := fun _ => R) (.fail n) (κ [.raw v]) (rawOk v) ∈ D from hD)
  refine ⟨_, h1, fun {φ ρ x} hx => ?_⟩
  simp only [conc, Option.some.injEq] at hx
  subst hx
  rw [rawOk_cells hr]; rfl
 all_goals exact ⟨_, hD, fun hx => cells_one trivial hx⟩
inductive PartsOk (φ : List Pl) (ρ : Nat → Int) : List (Nat × AV) → List (Nat × Value) → Prop
 | nil : PartsOk φ ρ [] []
 | cons {i : Nat} {v : AV} {x : Value} {l : List (Nat × AV)} {m : List (Nat × Value)} (hx : conc φ ρ v = some x) (h : PartsOk φ ρ l m) : PartsOk φ ρ ((i, v) :: l) ((i, x) :: m)
theorem opdParts_inv {t : Ts} : ∀ {l : List (Nat × Operand)} {κ : List (Nat × AV) → R}, opdParts t l κ ∈ D → ∃ ps, κ ps ∈ D ∧ ∀ {φ ρ sz a}, GA φ ρ t sz a → PartsOk φ ρ ps (l.map fun x => (x.1, a.eval x.2))
 | [], κ, hD => ⟨[], hD, fun _ => .nil⟩
 | (i, o) :: l, κ, hD => by
  obtain ⟨v, h1, hv⟩ := opd_inv (show opd t o (fun v => opdParts t l fun r => κ ((i, v) :: r)) ∈ D from hD)
  obtain ⟨ps, h2, hps⟩ := opdParts_inv h1
  exact ⟨_, h2, fun hg => .cons (hv hg) (hps hg)⟩
theorem splice_eq (cs : Array Value) : ∀ (l : List Value) (off k : Nat) (xs : List Value), off + k + l.length ≤ xs.length →
  ((l.zipIdx k).foldl (fun cs (c, j) => cs.setIfInBounds (off + j) c) xs.toArray).toList = xs.take (off + k) ++ (l ++ xs.drop (off + k + l.length))
 | [], off, k, xs, h => by simp
 | v :: l, off, k, xs, h => by
  simp only [List.length_cons] at h
  rw [List.zipIdx_cons, List.foldl_cons]
  simp only [List.setIfInBounds_toArray]
  rw [splice_eq cs l off (k + 1) _ (by simp; omega)]
  have hm : (xs.take (off + k)).length = off + k := by rw [List.length_take]; omega
  have e : xs.set (off + k) v = xs.take (off + k) ++ v :: xs.drop (off + k + 1) := by
   rw [List.set_eq_take_append_cons_drop, if_pos (by omega)]
  rw [e]
  have e1 : (xs.take (off + k) ++ v :: xs.drop (off + k + 1)).take (off + (k + 1)) = xs.take (off + k) ++ [v] := by
   rw [show off + (k + 1) = (xs.take (off + k)).length + 1 by omega, List.take_length_add_append]
   rfl
  have e2 : (xs.take (off + k) ++ v :: xs.drop (off + k + 1)).drop (off + (k + 1) + l.length) = xs.drop (off + k + (l.length + 1)) := by
   rw [show off + (k + 1) + l.length = (xs.take (off + k)).length + (l.length + 1) by omega, List.drop_length_add_append, List.drop_succ_cons, List.drop_drop]
   congr 1; omega
  rw [e1, e2, List.length_cons]
  simp
theorem dropN_inv : ∀ {n : Nat} {l : List AV} {κ : List AV → R}, dropN n l κ ∈ D → κ (l.drop n) ∈ D ∧ n ≤ l.length
 | 0, l, κ, h => ⟨h, Nat.zero_le _⟩
 | n + 1, [], κ, h => by cases h
 | n + 1, x :: l, κ, h => by
  obtain ⟨h1, h2⟩ := dropN_inv (show dropN n l κ ∈ D from h)
  exact ⟨h1, by simp; omega⟩
theorem appL_inv {r : List AV} : ∀ {c : List AV} {κ : List AV → R}, appL c r κ ∈ D → κ (c ++ r) ∈ D
 | [], κ, h => h
 | x :: c, κ, h => appL_inv (c := c) (κ := fun l => κ (x :: l)) h
theorem putL_inv {c : List AV} {n : Nat} : ∀ {i : Nat} {l : List AV} {κ : List AV → R}, putL c n i l κ ∈ D → κ (l.take i ++ (c ++ l.drop (i + n))) ∈ D ∧ i + n ≤ l.length
 | 0, l, κ, h => by
  obtain ⟨h1, h2⟩ := dropN_inv (show dropN n l (fun r => appL c r κ) ∈ D from h)
  have h3 := appL_inv h1
  exact ⟨by simpa using h3, by omega⟩
 | i + 1, [], κ, h => by cases h
 | i + 1, x :: l, κ, h => by
  obtain ⟨h1, h2⟩ := putL_inv (show putL c n i l (fun r => κ (x :: r)) ∈ D from h)
  refine ⟨?_, by simp; omega⟩
  rw [show i + 1 + n = (i + n) + 1 by omega]
  exact h1
theorem fillA_inv {places : Nat → Option (Nat × Nat)} : ∀ {ps : List (Nat × AV)} {l : List AV} {κ : List AV → R}, fillA places ps l κ ∈ D → ∃ r, κ r ∈ D ∧ ∀ {φ ρ xs vs}, concL φ ρ l = some xs → PartsOk φ ρ ps vs → ∃ ys, concL φ ρ r = some ys ∧ Instr.fill places xs.toArray vs = some ys.toArray
 | [], l, κ, hD => ⟨l, hD, fun {φ ρ xs vs} hx hp => by cases hp; exact ⟨xs, hx, rfl⟩⟩
 | (i, v) :: ps, l, κ, hD => by
  unfold fillA at hD
  obtain ⟨p, hp, h1⟩ := optK_inv hD
  obtain ⟨c, h2, hc⟩ := cellsK_inv h1
  obtain ⟨hb, h3⟩ := brec_inv h2
  rw [natBeq] at hb
  have hb := of_decide_eq_true hb
  obtain ⟨h3, q2⟩ := putL_inv h3
  obtain ⟨r, h4, hr⟩ := fillA_inv h3
  refine ⟨r, h4, fun {φ ρ xs vs} hx hps => ?_⟩
  cases hps with
  | cons hv hps =>
   rename_i x m
   have hcx := hc hv
   have hl := concL_length hx
   have hcl := concL_length hcx
   have q1 := hb
   have e1 : x.cells.size = p.2 := by rw [← Array.length_toList, hcl, q1]
   have hspl : concL φ ρ (l.take p.1 ++ (c ++ l.drop (p.1 + p.2))) = some (xs.take p.1 ++ (x.cells.toList ++ xs.drop (p.1 + p.2))) :=
    concL_append.2 ⟨_, _, concL_take _ hx, concL_append.2 ⟨_, _, hcx, concL_drop _ hx, rfl⟩, rfl⟩
   obtain ⟨ys, hy, hf⟩ := hr hspl hps
   refine ⟨ys, hy, ?_⟩
   rw [Instr.fill, hp]
   simp only [e1, ne_eq, not_true_eq_false, decide_false, Bool.false_or, List.size_toArray, decide_eq_true_eq]
   rw [if_neg (by rw [hl]; simp; omega)]
   rw [← hf]
   congr 1
   apply Array.toList_inj.1
   have hz : x.cells.zipIdx = (x.cells.toList.zipIdx 0).toArray := by
    apply Array.toList_inj.1; simp
   rw [hz, List.foldl_toArray]
   have := splice_eq #[] x.cells.toList p.1 0 xs (by rw [Array.length_toList, e1, hl]; omega)
   rw [this]
   simp [e1]
theorem build_sound {T : TypeId} {t : Ts} {parts : Array (Nat × Operand)} {κ : AV → R} (hD : buildA P T t parts κ ∈ D) : ∃ u, κ u ∈ D ∧ ∀ {φ ρ w sz a}, GA φ ρ t sz a → RunV P φ ρ w (Instr.build T (parts.map fun (i, x) => (i, a.eval x))) u := by
 obtain ⟨z, hz, h1⟩ := optK_inv hD
 obtain ⟨zl, h2, hzl⟩ := cellsK_inv h1
 obtain ⟨ps, h3, hps⟩ := opdParts_inv h2
 have hz' : ∃ it zv, P.info? T = some it ∧ it.zero = some zv ∧ ofValue zv = z := by
  unfold zeroA at hz
  split at hz
  ·rename_i it hit
   simp only [Option.map_eq_some_iff] at hz
   obtain ⟨zv, h1, h2⟩ := hz
   exact ⟨it, zv, hit, h1, h2⟩
  ·cases hz
 obtain ⟨it, zv, hit, hzero, rfl⟩ := hz'
 split at h3
 ·rename_i fs hu
  obtain ⟨pl, hpl, h4⟩ := optK_inv h3
  obtain ⟨r, h5, hr⟩ := fillA_inv h4
  refine ⟨_, h5, fun {φ ρ w sz a} hg => ?_⟩
  obtain ⟨ys, hy, hf⟩ := hr (hzl (conc_ofValue (φ := φ) (ρ := ρ) zv)) (hps hg)
  refine ⟨.agg ys.toArray, by simp [conc, hy], run_build w T _ _ ?_⟩
  unfold placesA at hpl
  simp only [hu] at hpl
  simp only [Program.built, hit, hu, hzero, hpl]
  rw [show (fun (x : Nat) => pl.toArray[x]?) = (fun i => pl[i]?) by funext i; simp]
  simpa using hf
 ·rename_i n e hu
  obtain ⟨s, hs, h4⟩ := optK_inv h3
  obtain ⟨r, h5, hr⟩ := fillA_inv h4
  refine ⟨_, h5, fun {φ ρ w sz a} hg => ?_⟩
  obtain ⟨ys, hy, hf⟩ := hr (hzl (conc_ofValue (φ := φ) (ρ := ρ) zv)) (hps hg)
  refine ⟨.agg ys.toArray, by simp [conc, hy], run_build w T _ _ ?_⟩
  simp only [sizeA, Option.map_eq_some_iff] at hs
  obtain ⟨ie, hie, rfl⟩ := hs
  simp only [Program.built, hit, hu, hzero, hie]
  simpa using hf
 ·cases h3
end
end Go.Proofs.YtooebogidjejoaaGreat
namespace Go.Proofs.YtooebogidjejoaaGreat
open Go
section
variable {P : Program} {D : Dn} {h : Tr AObj}
theorem nilA_sound {v : AV} {κ : AV → R} (hD : nilA κ v ∈ D) : κ v ∈ D ∧ ∀ {φ ρ x}, conc φ ρ v = some x → (∃ p, x = .pointer (some p)) ∨ (∃ p n c, x = .slice p n c) ∨ (∃ r, x = .map r) ∨ (∃ f a b, x = .func (.func f) a b) ∨ (∃ t y, x = .iface t y) := by
 unfold nilA at hD
 obtain ⟨hb, h1⟩ := brec_inv hD
 refine ⟨h1, fun {φ ρ x} hx => ?_⟩
 cases v
 case ptr =>
  obtain ⟨p, _, rfl⟩ := conc_ptr hx
  exact .inl ⟨_, rfl⟩
 case map =>
  simp only [conc, Option.map_eq_some_iff] at hx
  obtain ⟨p, _, rfl⟩ := hx
  exact .inr (.inr (.inl ⟨_, rfl⟩))
 case sl =>
  obtain ⟨p, _, rfl⟩ := conc_sl hx
  exact .inr (.inl ⟨_, _, _, rfl⟩)
 case emp =>
  simp only [conc, Option.map_eq_some_iff] at hx
  obtain ⟨p, _, rfl⟩ := hx
  split
  ·exact .inr (.inl ⟨_, _, _, rfl⟩)
  ·exact .inr (.inl ⟨_, _, _, rfl⟩)
 case em0 =>
  simp only [conc, Option.map_eq_some_iff] at hx
  obtain ⟨p, _, rfl⟩ := hx
  exact .inr (.inl ⟨_, _, _, rfl⟩)
 case fn f a b =>
  cases f with
  | func g =>
   simp only [conc, Option.bind_eq_some_iff, Option.map_eq_some_iff] at hx
   obtain ⟨p, _, q, _, rfl⟩ := hx
   exact .inr (.inr (.inr (.inl ⟨_, _, _, rfl⟩)))
  | _ => cases hb
 case iface =>
  simp only [conc, Option.map_eq_some_iff] at hx
  obtain ⟨p, _, rfl⟩ := hx
  exact .inr (.inr (.inr (.inr ⟨_, _, rfl⟩)))
 case ssl =>
  obtain ⟨p, n, c, rfl⟩ := ssl_conc hx
  exact .inr (.inl ⟨_, _, _, rfl⟩)
 case fsl =>
  obtain ⟨p, n, c, rfl⟩ := fsl_conc hx
  exact .inr (.inl ⟨_, _, _, rfl⟩)
 all_goals cases hb
theorem OptOk.of_opds {φ : List Pl} {ρ : Nat → Int} {a : Act} {o : Option Operand} {vs : List AV} (hl : vs.length = o.toList.length) (hc : concL φ ρ vs = some (o.toList.map a.eval)) : OptOk φ ρ vs.head? (o.map a.eval) := by
 cases o with
 | none =>
  have : vs = [] := by simpa using hl
  subst this
  exact .no
 | some o =>
  cases vs with
  | nil => simp at hl
  | cons v vs =>
   obtain ⟨x, ys, h1, h2, h3⟩ := concL_cons.1 hc
   simp at h3
   obtain ⟨rfl, rfl⟩ := h3
   exact .yes h1
theorem lastN_back : ∀ {l : List Nat} {n : Nat}, lastN l = some n → l.toArray.back? = some n
 | [], n, h => by cases h
 | [m], n, h => by cases h; rfl
 | m :: k :: l, n, h => by
  have h : lastN (k :: l) = some n := h
  have := lastN_back h
  simp only [List.back?_toArray] at this ⊢
  rw [List.getLast?_cons_cons]
  exact this
theorem bornK_inv {n : Nat} : ∀ {es : List (AV × AV × Nat)} {κ : AV → R}, bornK n es κ ∈ D → ∃ k v, κ (.tup [k, v]) ∈ D ∧ ∀ {φ ρ ms}, EntOk φ ρ es ms → ∃ m, ms.find? (fun e => e.born == n) = some m ∧ conc φ ρ k = some m.key ∧ conc φ ρ v = some m.val
 | [], κ, h => by cases h
 | e :: es, κ, h => by
  rcases brec_cases (show Bool.rec (motive := fun _ => R) (bornK n es κ) (κ (.tup [e.1, e.2.1])) (Nat.beq e.2.2 n) ∈ D from h) with ⟨hb, h1⟩ | ⟨hb, h1⟩
  ·rw [natBeq, decide_eq_true_eq] at hb
   refine ⟨_, _, h1, fun {φ ρ ms} he => ?_⟩
   cases he with
   | cons hk hv he => exact ⟨_, by simp only [List.find?_cons]; rw [show (_ == n) = true from by simpa using hb], hk, hv⟩
  ·rw [natBeq, decide_eq_false_iff_not] at hb
   obtain ⟨k, v, h2, h3⟩ := bornK_inv h1
   refine ⟨k, v, h2, fun {φ ρ ms} he => ?_⟩
   cases he with
   | cons hk hv he =>
    obtain ⟨m, q1, q2, q3⟩ := h3 he
    exact ⟨m, by simp only [List.find?_cons]; rw [show (_ == n) = false from by simpa using hb]; exact q1, q2, q3⟩
theorem ent_sound {x : AV} {κ : AV → R} (hD : entA h x κ ∈ D) : ∃ u, κ u ∈ D ∧ ∀ {φ ρ w a}, Hp P φ ρ h w → conc φ ρ x = some a → RunV P φ ρ w (Instr.entry a) u := by
 obtain ⟨id, off, rfl, h1⟩ := ptrV_inv hD
 obtain ⟨hb, h2⟩ := brec_inv h1
 rw [natBeq, decide_eq_true_eq] at hb
 have hb : off = 0 := hb
 subst hb
 obtain ⟨o, ho, h3⟩ := optK_inv h2
 unfold entI at h3
 split at h3
 ·rename_i m since seen last
  obtain ⟨i, rfl, h4⟩ := optK_inv h3
  obtain ⟨n, hn, h5⟩ := optK_inv h4
  obtain ⟨es, c, hi, h6⟩ := mapK_inv h5
  obtain ⟨hc, h7⟩ := brec_inv h6
  rw [natBeq, decide_eq_true_eq] at hc
  subst hc
  obtain ⟨k, v, h8, h9⟩ := bornK_inv h7
  refine ⟨_, h8, fun {φ ρ w a} hp ha => ?_⟩
  obtain ⟨p, hpl, rfl⟩ := conc_ptr ha
  obtain ⟨p', m', k1, k2, k3, k4⟩ := hp.obj _ _ ho
  rw [hpl] at k1; cases k1
  cases m' with
  | none => exact k3.elim
  | some b =>
   obtain ⟨q, hq, rfl⟩ := k3
   obtain ⟨q', xs, j1, j2, j3⟩ := hp.obj _ _ hi
   rw [hq] at j1; cases j1
   obtain ⟨me, e1, e2, e3⟩ := h9 j3
   refine ⟨.tuple #[me.key, me.val], by simp [conc, concL, e2, e3], ?_⟩
   have e1' : xs.find? (fun e => e.born == n) = some me := by rw [← Array.find?_toList]; exact e1
   simp only [Instr.entry, k2, Sem.run_bind, getObj, Sem.run, k4, j2, Result.andThen_ok, lastN_back hn, e1']
   simp
 ·cases h3
theorem isNilC_eq {o : Operand} (h : isNilC o = true) : o = .const .nilIface := by
 unfold isNilC at h
 split at h
 ·rfl
 ·cases h
theorem eqNil_sound {op : BinOp} {T : TypeId} {x : AV} {κ : AV → R} (hD : eqNil P op T x κ ∈ D) : ∃ u, κ u ∈ D ∧ ∀ {φ ρ w a o1}, conc φ ρ x = some a → RunV P φ ρ w (do eqGuard op T o1 (.const .nilIface) a .nilIface; binOp op T a .nilIface) u := by
 obtain ⟨d, hd, h1⟩ := optK_inv hD
 split at h1
 ·rename_i ms
  obtain ⟨b, hb, h2⟩ := optK_inv h1
  have key : ∀ {φ ρ a}, conc φ ρ x = some a → (∀ {w o1}, op = .eql ∨ op = .neq → (eqGuard op T o1 (.const .nilIface) a .nilIface).run P w = .ok () w) ∧ ∀ {w}, (Op.equal T a .nilIface).run P w = .ok b w ∧ binOp .eql T a .nilIface = (do pure (.bool (← Op.equal T a .nilIface))) ∧ binOp .neq T a .nilIface = (do pure (.bool (!(← Op.equal T a .nilIface)))) := by
   intro φ ρ a ha
   unfold nilI at hb
   split at hb
   ·cases hb
    simp only [conc, Option.map_eq_some_iff] at ha
    obtain ⟨y, _, rfl⟩ := ha
    refine ⟨fun {w o1} ho => by rcases ho with rfl | rfl <;> rfl, fun {w} => ⟨?_, rfl, rfl⟩⟩
    rw [equal_eq, Op.equalIn, Sem.run_bind, run_underlying hd]
    rfl
   ·cases hb
    simp only [conc, Option.some.injEq] at ha
    subst ha
    refine ⟨fun {w o1} ho => by rcases ho with rfl | rfl <;> (unfold eqGuard; cases o1 <;> rfl), fun {w} => ⟨?_, rfl, rfl⟩⟩
    rw [equal_eq, Op.equalIn, Sem.run_bind, run_underlying hd]
    rfl
   ·cases hb
  split at h2
  ·refine ⟨_, h2, fun {φ ρ w a o1} ha => ⟨.bool b, rfl, ?_⟩⟩
   obtain ⟨k1, k2⟩ := key ha
   obtain ⟨r1, r2, r3⟩ := k2 (w := w)
   rw [Sem.run_bind, k1 (.inl rfl), Result.andThen_ok, r2, Sem.run_bind, r1]
   rfl
  ·refine ⟨_, h2, fun {φ ρ w a o1} ha => ⟨.bool (!b), by simp [conc, SB.ev, notF_eq], ?_⟩⟩
   obtain ⟨k1, k2⟩ := key ha
   obtain ⟨r1, r2, r3⟩ := k2 (w := w)
   rw [Sem.run_bind, k1 (.inr rfl), Result.andThen_ok, r3, Sem.run_bind, r1]
   rfl
  ·cases h2
 ·cases h1
theorem iface_sound {T : TypeId} {x : AV} {κ : AV → R} (hD : ifaceA P T x κ ∈ D) : ∃ u, κ u ∈ D ∧ ∀ {φ ρ w a}, conc φ ρ x = some a → RunV P φ ρ w (Instr.makeInterface T a) u := by
 obtain ⟨d, hd, h1⟩ := optK_inv hD
 split at h1
 ·cases h1
 ·rename_i hne
  refine ⟨_, h1, fun {φ ρ w a} ha => ⟨.iface T a, by simp [conc, ha], ?_⟩⟩
  simp only [Instr.makeInterface, Sem.run_bind, run_underlying hd, Result.andThen_ok]
  rfl
theorem asMiss_inv {T : TypeId} {ok : Bool} {κ : AV → R} (hD : asMiss P T ok κ ∈ D) : ok = true ∧ ∃ z, zeroA P T = some z ∧ κ (.tup [z, .bool (.lit false)]) ∈ D := by
 obtain ⟨h1, h2⟩ := brec_inv hD
 obtain ⟨z, h3, h4⟩ := optK_inv h2
 exact ⟨h1, z, h3, h4⟩
theorem asHit_conc {ok : Bool} {v : AV} {φ : List Pl} {ρ : Nat → Int} {x : Value} (h : conc φ ρ v = some x) : conc φ ρ (Bool.rec (motive := fun _ => AV) v (.tup [v, .bool (.lit true)]) ok) = some (if ok then .tuple #[x, .bool true] else x) := by
 cases ok
 ·exact h
 ·simp [conc, concL, h, SB.ev]
theorem assert_sound {x : AV} {X T : TypeId} {ok : Bool} {κ : AV → R} (hD : assertA P x T ok κ ∈ D) : ∃ u, κ u ∈ D ∧ ∀ {φ ρ w a}, conc φ ρ x = some a → RunV P φ ρ w (Instr.typeAssert a X T ok) u := by
 obtain ⟨d, hd, h1⟩ := optK_inv hD
 split at h1
 ·rename_i t v
  unfold asTo at h1
  split at h1
  ·rename_i want
   obtain ⟨i, hi, h2⟩ := optK_inv h1
   rcases brec_cases h2 with ⟨hm, h3⟩ | ⟨hm, h3⟩
   ·obtain ⟨rfl, z, hz, h4⟩ := asMiss_inv h3
    refine ⟨_, h4, fun {φ ρ w a} ha => ?_⟩
    simp only [conc, Option.map_eq_some_iff] at ha
    obtain ⟨y, hy, rfl⟩ := ha
    obtain ⟨zv, hzr, hzc⟩ := zero_conc hz (w := w) (φ := φ) (ρ := ρ)
    refine ⟨.tuple #[zv, .bool false], by simp [conc, concL, hzc, SB.ev], ?_⟩
    simp only [Instr.typeAssert, Sem.run_bind, run_underlying hd, Result.andThen_ok, run_typeInfo w hi]
    cases e : Instr.missingMethod want i.methods with
    | none => rw [e] at hm; cases hm
    | some m => simp [Sem.run_bind, hzr]
   ·refine ⟨_, h3, fun {φ ρ w a} ha => ?_⟩
    refine ⟨_, asHit_conc ha, ?_⟩
    simp only [conc, Option.map_eq_some_iff] at ha
    obtain ⟨y, hy, rfl⟩ := ha
    simp only [Instr.typeAssert, Sem.run_bind, run_underlying hd, Result.andThen_ok, run_typeInfo w hi]
    cases e : Instr.missingMethod want i.methods with
    | none => rfl
    | some m => rw [e] at hm; cases hm
  ·rename_i hni
   rcases brec_cases h1 with ⟨hm, h3⟩ | ⟨hm, h3⟩
   ·rw [natBeq, decide_eq_true_eq] at hm
    subst hm
    refine ⟨_, h3, fun {φ ρ w a} ha => ?_⟩
    simp only [conc, Option.map_eq_some_iff] at ha
    obtain ⟨y, hy, rfl⟩ := ha
    refine ⟨_, asHit_conc hy, ?_⟩
    simp only [Instr.typeAssert, Sem.run_bind, run_underlying hd, Result.andThen_ok]
    cases d <;> first | exact absurd rfl (hni _) | (simp; done) | (simp; split <;> rfl)
   ·rw [natBeq, decide_eq_false_iff_not] at hm
    obtain ⟨rfl, z, hz, h4⟩ := asMiss_inv h3
    refine ⟨_, h4, fun {φ ρ w a} ha => ?_⟩
    simp only [conc, Option.map_eq_some_iff] at ha
    obtain ⟨y, hy, rfl⟩ := ha
    obtain ⟨zv, hzr, hzc⟩ := zero_conc hz (w := w) (φ := φ) (ρ := ρ)
    refine ⟨.tuple #[zv, .bool false], by simp [conc, concL, hzc, SB.ev], ?_⟩
    simp only [Instr.typeAssert, Sem.run_bind, run_underlying hd, Result.andThen_ok]
    cases d <;> first | exact absurd rfl (hni _) | (simp [hm, hzr]; done)
 ·obtain ⟨rfl, z, hz, h4⟩ := asMiss_inv h1
  refine ⟨_, h4, fun {φ ρ w a} ha => ?_⟩
  simp only [conc, Option.some.injEq] at ha
  subst ha
  obtain ⟨zv, hzr, hzc⟩ := zero_conc hz (w := w) (φ := φ) (ρ := ρ)
  refine ⟨.tuple #[zv, .bool false], by simp [conc, concL, hzc, SB.ev], ?_⟩
  simp only [Instr.typeAssert, Sem.run_bind, run_underlying hd, Result.andThen_ok]
  cases d <;> simp [Sem.run_bind, hzr]
 ·cases h1
def RunO (P : Program) (φ : List Pl) (ρ : Nat → Int) (a : Act) (w : World) (op : Op) (v : AV) : Prop := ∃ x, conc φ ρ v = some x ∧ ∀ o : Oper, o.op = op → (execOp a.eval o).run P w = .ok (.value x) w
theorem RunO.of {φ : List Pl} {ρ : Nat → Int} {a : Act} {w : World} {op : Op} {v : AV} {m : Sem Value} (hr : RunV P φ ρ w m v) (he : ∀ o : Oper, o.op = op → execOp a.eval o = (do pure (.value (← m)))) : RunO P φ ρ a w op v := by
 obtain ⟨x, hx, h1⟩ := hr.value
 exact ⟨x, hx, fun o ho => by rw [he o ho]; exact h1⟩
theorem evQ_sound {t : Ts} {pc : PC} {op : Op} {κ : AV → PC → R} (hD : evQ P h t pc op κ ∈ D) : ∃ v pc', κ v pc' ∈ D ∧ PcExt pc pc' ∧ ∀ {φ ρ sz a w}, Holds ρ pc' → GA φ ρ t sz a → Hp P φ ρ h w → RunO P φ ρ a w op v := by
 cases op
 case move x =>
  obtain ⟨v, h1, hv⟩ := opd_inv (show opd t x (fun v => κ v pc) ∈ D from hD)
  exact ⟨v, pc, h1, .refl _, fun {φ ρ sz a w} _ hg _ => ⟨_, hv hg, fun o ho => by simp [execOp, ho]⟩⟩
 case assign x =>
  obtain ⟨v, h1, hv⟩ := opd_inv (show opd t x (fun v => κ v pc) ∈ D from hD)
  exact ⟨v, pc, h1, .refl _, fun {φ ρ sz a w} _ hg _ => ⟨_, hv hg, fun o ho => by simp [execOp, ho]⟩⟩
 case pick c x y =>
  obtain ⟨v, h1, hv⟩ := opd_inv (show opd t c (fun c => opd t x fun a => opd t y fun b => asBoolA c fun c => decK pc c fun c pc => κ (Bool.rec (motive := fun _ => AV) b a c) pc) ∈ D from hD)
  obtain ⟨u1, h1, hu1⟩ := opd_inv h1
  obtain ⟨u2, h1, hu2⟩ := opd_inv h1
  obtain ⟨b, rfl, h2⟩ := asBoolA_inv h1
  obtain ⟨d, pc', h3, hx, hd⟩ := decK_inv h2
  refine ⟨_, pc', h3, hx, fun {φ ρ sz a w} hρ hg _ => ?_⟩
  have hc := hv hg
  simp only [conc, Option.some.injEq, hd ρ hρ] at hc
  cases d with
  | false => exact ⟨_, hu2 hg, fun o ho => by simp [execOp, ho, Sem.run_bind, ← hc, asBool]⟩
  | true => exact ⟨_, hu1 hg, fun o ho => by simp [execOp, ho, Sem.run_bind, ← hc, asBool]⟩
 case load T x =>
  obtain ⟨v, h1, hv⟩ := opd_inv (show opd t x (fun v => loadA P h T v fun v => κ v pc) ∈ D from hD)
  obtain ⟨u, h2, hu⟩ := load_sound h1
  exact ⟨u, pc, h2, .refl _, fun {φ ρ sz a w} _ hg hp => .of (hu hp (hv hg)) fun o ho => by unfold execOp; simp only [ho]⟩
 case nilCheck x =>
  obtain ⟨v, h1, hv⟩ := opd_inv (show opd t x (fun v => nilA (fun v => κ v pc) v) ∈ D from hD)
  obtain ⟨h2, hn⟩ := nilA_sound h1
  refine ⟨v, pc, h2, .refl _, fun {φ ρ sz a w} _ hg _ => ⟨_, hv hg, fun o ho => ?_⟩⟩
  unfold execOp
  simp only [ho]
  rcases hn (hv hg) with ⟨p, e⟩ | ⟨p, n, c, e⟩ | ⟨r, e⟩ | ⟨f, b, c, e⟩ | ⟨T, y, e⟩ <;> rw [e] <;> rfl
 case binOp op T x y yT =>
  obtain ⟨v, h1, hv⟩ := opd_inv (show opd t x (fun x => opd t y fun y' => bopQ P op T h (isNilC y) x y' pc κ) ∈ D from hD)
  obtain ⟨v', h2, hv'⟩ := opd_inv h1
  unfold bopQ at h2
  rcases brec_cases h2 with ⟨ha, h2⟩ | ⟨_, h2⟩
  ·simp only [Bool.and_eq_true] at ha
   obtain ⟨u, pc', h3, hx, hu⟩ := eqP_sound ha.1 h2
   exact ⟨u, pc', h3, hx, fun {φ ρ sz a w} hρ hg hp => .of (hu (o1 := x) (o2 := y) hρ (hv hg) (hv' hg)) fun o ho => by unfold execOp; simp only [ho]⟩
  obtain ⟨y1, h2, hl⟩ : ∃ u, binM P op T h (isNilC y) v pc κ u ∈ D ∧ ∀ {φ ρ a}, RgOk ρ pc.rg → conc φ ρ v' = some a → conc φ ρ u = some a := by
   rcases brec_cases h2 with ⟨_, h2⟩ | ⟨_, h2⟩
   ·exact litR_inv h2
   ·exact ⟨v', h2, fun _ ha => ha⟩
  rcases brec_cases h2 with ⟨hn, h2⟩ | ⟨_, h2⟩
  ·obtain ⟨u, h3, hu⟩ := eqNil_sound h2
   obtain ⟨u', h4, hf⟩ := fitV_inv h3
   obtain rfl := isNilC_eq hn
   exact ⟨u', pc, h4, .refl _, fun {φ ρ sz a w} hρ hg hp => .of ((hu (o1 := x) (hv hg)).fit fun h => hf hρ.rg h) fun o ho => by unfold execOp; simp only [ho]; rfl⟩
  obtain ⟨u, h3, hu⟩ := bin_sound h2
  obtain ⟨u', h4, hf⟩ := fitV_inv h3
  exact ⟨u', pc, h4, .refl _, fun {φ ρ sz a w} hρ hg hp => .of ((hu (o1 := x) (o2 := y) hp (hv hg) (hl hρ.rg (hv' hg))).fit fun h => hf hρ.rg h) fun o ho => by unfold execOp; simp only [ho]⟩
 case unOp op T x =>
  obtain ⟨v, h1, hv⟩ := opd_inv (show opd t x (fun x => unA op x fun v => κ v pc) ∈ D from hD)
  obtain ⟨u, h3, hu⟩ := un_sound (P := P) h1
  exact ⟨u, pc, h3, .refl _, fun {φ ρ sz a w} _ hg hp => .of (hu (hv hg)) fun o ho => by unfold execOp; simp only [ho]⟩
 case convert src dst x =>
  obtain ⟨v, h1, hv⟩ := opd_inv (show opd t x (fun x => convQ P src dst h x fun v => fitV pc.rg v fun v => κ v pc) ∈ D from hD)
  obtain ⟨u, h3, hu⟩ := convQ_sound h1
  obtain ⟨u', h4, hf⟩ := fitV_inv h3
  exact ⟨u', pc, h4, .refl _, fun {φ ρ sz a w} hρ hg hp => .of ((hu hp (hv hg)).fit fun h => hf hρ.rg h) fun o ho => by unfold execOp; simp only [ho]⟩
 case fieldAddr T x f =>
  obtain ⟨v, h1, hv⟩ := opd_inv (show opd t x (fun x => fldAddr P T f x fun v => κ v pc) ∈ D from hD)
  obtain ⟨u, h3, hu⟩ := fldAddr_sound h1
  exact ⟨u, pc, h3, .refl _, fun {φ ρ sz a w} _ hg hp => .of (hu (hv hg)) fun o ho => by unfold execOp; simp only [ho]⟩
 case field T x f =>
  obtain ⟨v, h1, hv⟩ := opd_inv (show opd t x (fun x => fldA P T f x fun v => κ v pc) ∈ D from hD)
  obtain ⟨u, h3, hu⟩ := fld_sound h1
  exact ⟨u, pc, h3, .refl _, fun {φ ρ sz a w} _ hg hp => .of (hu (hv hg)) fun o ho => by unfold execOp; simp only [ho]⟩
 case indexAddr T x i =>
  obtain ⟨v, h1, hv⟩ := opd_inv (show opd t x (fun x => opd t i fun i => litR pc.rg i fun i => ixX P T pc x i κ) ∈ D from hD)
  obtain ⟨v', h2, hv'⟩ := opd_inv h1
  obtain ⟨v2, h2, hl⟩ := litR_inv h2
  obtain ⟨u, pc', h3, x1, hu⟩ := ixX_sound h2
  exact ⟨u, pc', h3, x1, fun {φ ρ sz a w} hρ hg hp => .of (hu hρ (hv hg) (hl (by rw [← x1.rg]; exact hρ.rg) (hv' hg))) fun o ho => by unfold execOp; simp only [ho]⟩
 case index T x i =>
  obtain ⟨v, h1, hv⟩ := opd_inv (show opd t x (fun x => opd t i fun i => litR pc.rg i fun i => ixA P T x i fun v => κ v pc) ∈ D from hD)
  obtain ⟨v', h2, hv'⟩ := opd_inv h1
  obtain ⟨v2, h2, hl⟩ := litR_inv h2
  obtain ⟨u, h3, hu⟩ := ix_sound h2
  exact ⟨u, pc, h3, .refl _, fun {φ ρ sz a w} hρ hg hp => .of (hu (hv hg) (hl hρ.rg (hv' hg))) fun o ho => by unfold execOp; simp only [ho]⟩
 case slice T x lo hi mx =>
  obtain ⟨v, h1, hv⟩ := opd_inv (show opd t x (fun x => opds t lo.toList fun lo' => opds t hi.toList fun hi' => opds t mx.toList fun mx' => sliceX P T h pc x lo'.head? hi'.head? mx'.head? κ) ∈ D from hD)
  obtain ⟨v1, h2, l1, hv1⟩ := opds_inv h1
  obtain ⟨v2, h3, l2, hv2⟩ := opds_inv h2
  obtain ⟨v3, h4, l3, hv3⟩ := opds_inv h3
  obtain ⟨u, pc', h5, x1, hu⟩ := sliceX_sound h4
  exact ⟨u, pc', h5, x1, fun {φ ρ sz a w} hρ hg hp => .of (hu hρ hp (hv hg) (.of_opds l1 (hv1 hg)) (.of_opds l2 (hv2 hg)) (.of_opds l3 (hv3 hg))) fun o ho => by unfold execOp; simp only [ho]⟩
 case lookup T x i ok =>
  obtain ⟨v, h1, hv⟩ := opd_inv (show opd t x (fun x => opd t i fun i => lookA P T h x i ok pc κ) ∈ D from hD)
  obtain ⟨v', h2, hv'⟩ := opd_inv h1
  obtain ⟨u, pc', h3, x1, hu⟩ := look_sound h2
  exact ⟨u, pc', h3, x1, fun {φ ρ sz a w} hρ hg hp => .of (hu hρ hp (hv hg) (hv' hg)) fun o ho => by unfold execOp; simp only [ho]⟩
 case entry x =>
  obtain ⟨v, h1, hv⟩ := opd_inv (show opd t x (fun x => entA h x fun v => κ v pc) ∈ D from hD)
  obtain ⟨u, h2, hu⟩ := ent_sound (P := P) h1
  exact ⟨u, pc, h2, .refl _, fun {φ ρ sz a w} _ hg hp => .of (hu hp (hv hg)) fun o ho => by unfold execOp; simp only [ho]⟩
 case makeInterface T x =>
  obtain ⟨v, h1, hv⟩ := opd_inv (show opd t x (fun x => ifaceA P T x fun v => κ v pc) ∈ D from hD)
  obtain ⟨u, h2, hu⟩ := iface_sound h1
  exact ⟨u, pc, h2, .refl _, fun {φ ρ sz a w} _ hg hp => .of (hu (hv hg)) fun o ho => by unfold execOp; simp only [ho]⟩
 case typeAssert x X T ok =>
  obtain ⟨v, h1, hv⟩ := opd_inv (show opd t x (fun x => assertA P x T ok fun v => κ v pc) ∈ D from hD)
  obtain ⟨u, h2, hu⟩ := assert_sound (X := X) h1
  exact ⟨u, pc, h2, .refl _, fun {φ ρ sz a w} _ hg hp => .of (hu (hv hg)) fun o ho => by unfold execOp; simp only [ho]⟩
 case extract x n =>
  obtain ⟨v, h1, hv⟩ := opd_inv (show opd t x (fun x => extA x n fun v => κ v pc) ∈ D from hD)
  obtain ⟨u, h3, hu⟩ := ext_sound (P := P) h1
  exact ⟨u, pc, h3, .refl _, fun {φ ρ sz a w} _ hg hp => .of (hu (hv hg)) fun o ho => by unfold execOp; simp only [ho]⟩
 case makeFunc fn first captured =>
  obtain ⟨v1, h1, l1, hv1⟩ := opds_inv (show opds t first.toList (fun a => opds t captured.toList fun b => κ (.fn fn a b) pc) ∈ D from hD)
  obtain ⟨v2, h2, l2, hv2⟩ := opds_inv h1
  refine ⟨_, pc, h2, .refl _, fun {φ ρ sz a w} _ hg hp => .of (m := Instr.makeFunc fn (first.map a.eval) (captured.map a.eval)) ⟨.func fn (first.map a.eval) (captured.map a.eval), ?_, rfl⟩ fun o ho => by unfold execOp; simp only [ho]⟩
  simp [conc, hv1 hg, hv2 hg, ← Array.toList_map]
 case build T parts =>
  obtain ⟨u, h3, hu⟩ := build_sound (show buildA P T t parts (fun v => κ v pc) ∈ D from hD)
  exact ⟨u, pc, h3, .refl _, fun {φ ρ sz a w} _ hg hp => .of (hu hg) fun o ho => by unfold execOp; simp only [ho]⟩
 case call c =>
  have hD : qCall P h t pc κ c ∈ D := hD
  unfold qCall at hD
  split at hD
  ·rename_i b hb
   obtain ⟨vs, h1, _, hvs⟩ := opds_inv hD
   obtain ⟨u, pc', h2, hx, hu⟩ := bltQ_sound h1
   refine ⟨u, pc', h2, hx, fun {φ ρ sz a w} hρ hg hp => ?_⟩
   have key : ∀ (T : TypeId) (cs : Array Bool), ∃ x, conc φ ρ u = some x ∧ (builtin b c.argTypes T cs (c.args.map a.eval)).run P w = .ok (.value x) w := fun T cs => by
    obtain ⟨x, hx1, hx2⟩ := hu (w := w) (T := T) (cs := cs) hρ hp (hvs hg)
    exact ⟨x, hx1, by rw [← hx2]; congr 1; congr 1; apply Array.toList_inj.1; simp⟩
   obtain ⟨x, hx1, _⟩ := key 0 #[]
   refine ⟨x, hx1, fun o ho => ?_⟩
   unfold execOp
   simp only [ho, Sem.run_bind, resolve, hb, Sem.run_pure, Result.andThen_ok, invoke]
   obtain ⟨y, hy1, hy2⟩ := key o.type (c.args.map fun | .const _ => true | _ => false)
   rw [hx1] at hy1
   cases hy1
   exact hy2
  ·cases hD
 all_goals cases hD
end
end Go.Proofs.YtooebogidjejoaaGreat
namespace Go.Proofs.YtooebogidjejoaaGreat
open Go
structure Base where
 w0 : World
 fr : List (Nat × Obj)
def FoOk (ρ : Nat → Int) (w : World) : Prop := ∀ a, 32 ≤ a → a < 64 → ρ (fMark a) = 1 → 0 ≤ ρ a ∧ (ρ a).toNat ≤ (ρ (fCap a)).toNat ∧ ∀ i, i < (ρ a).toNat → ∃ arr T fz, w.heap[(ρ (fBlk a)).toNat]? = some (.cells arr T fz) ∧ arr[(ρ (fOff a)).toNat + i]? = some (.int .u8 (rowB ρ a i))
structure Gm (P : Program) (ρ : Nat → Int) (w0 : Base) (φ : List Pl) (s : St) (w : World) : Prop where
 hp : Hp P φ ρ s.hp w
 len : φ.length = s.nx
 ids : ∀ id o, s.hp.get id = some o → id < s.nx
 lo : ∀ (id : Nat) (p : Pl), φ[id]? = some p → w0.w0.heap.size ≤ p.blk ∧ p.blk < w.heap.size
 kp : Kp [] w0.w0 w
 fr : ∀ x ∈ w0.fr, x.1 < w.heap.size ∧ w.heap[x.1]? = some x.2 ∧ ∀ (id : Nat) (p : Pl), φ[id]? = some p → p.blk ≠ x.1
 fo : FoOk ρ w0.w0
section
variable {P : Program} {ρ : Nat → Int} {w0 : Base} {w w' : World} {φ φ' : List Pl} {s : St}
theorem EntOk.mono {es : List (AV × AV × Nat)} {ms : List MapEntry} (h : EntOk φ ρ es ms) (hp : φ <+: φ') : EntOk φ' ρ es ms := by
 induction h with
 | nil => exact .nil
 | cons hk hv _ ih => exact .cons (conc_mono hp _ _ hk) (conc_mono hp _ _ hv) ih
theorem CelOk.mono {p : Pl} {arr : Array Value} {fz : Nat × Nat} {n : Nat} {c : Tr AV} {d : Option AV} {T : TypeId} {row : Bool} (h : CelOk P φ ρ w p arr fz n c d T row) (hp : φ <+: φ') : CelOk P φ' ρ w p arr fz n c d T row :=
 ⟨h.blk, h.size, h.le, h.fix, h.es, h.fr, fun i hi => by
  obtain ⟨v, x, h1, h2, h3, h4⟩ := h.cell i hi
  exact ⟨v, x, h1, conc_mono hp _ _ h2, h3, h4⟩⟩
theorem CelOk.world {p : Pl} {arr : Array Value} {fz : Nat × Nat} {n : Nat} {c : Tr AV} {d : Option AV} {T : TypeId} {row : Bool} (h : CelOk P φ ρ w p arr fz n c d T row) (he : w'.heap[p.blk]? = w.heap[p.blk]?) : CelOk P φ ρ w' p arr fz n c d T row :=
 ⟨he.trans h.blk, h.size, h.le, h.fix, h.es, h.fr, h.cell⟩
theorem MapAt.mono {m m' : Option Nat} (h : MapAt φ m m') (hp : φ <+: φ') : MapAt φ' m m' := by
 cases m <;> cases m' <;> simp only [MapAt] at h ⊢
 obtain ⟨q, h1, h2⟩ := h
 exact ⟨q, pl_mono hp h1, h2⟩
theorem ObjOk.mono {id : Nat} {o : AObj} (h : ObjOk P φ ρ w id o) (hp : φ <+: φ') : ObjOk P φ' ρ w id o := by
 cases o with
 | cells n c d T row => obtain ⟨p, arr, fz, h1, h2⟩ := h; exact ⟨p, arr, fz, pl_mono hp h1, h2.mono hp⟩
 | map es clk => obtain ⟨p, xs, h1, h2, h3⟩ := h; exact ⟨p, xs, pl_mono hp h1, h2, h3.mono hp⟩
 | iter m since seen last => obtain ⟨p, m', h1, h2, h3, h4⟩ := h; exact ⟨p, m', pl_mono hp h1, h2, h3.mono hp, h4⟩
 | rope cs T row => obtain ⟨p, arr, fz, h1, h2⟩ := h; exact ⟨p, arr, fz, pl_mono hp h1, h2⟩
 | dead => obtain ⟨p, h1⟩ := h; exact ⟨p, pl_mono hp h1⟩
theorem ObjOk.world {id : Nat} {o : AObj} (h : ObjOk P φ ρ w id o) (he : ∀ p, live o = true → φ[id]? = some p → w'.heap[p.blk]? = w.heap[p.blk]?) : ObjOk P φ ρ w' id o := by
 cases o with
 | cells n c d T row => obtain ⟨p, arr, fz, h1, h2⟩ := h; exact ⟨p, arr, fz, h1, h2.world (he p rfl h1)⟩
 | map es clk => obtain ⟨p, xs, h1, h2, h3⟩ := h; exact ⟨p, xs, h1, (he p rfl h1).trans h2, h3⟩
 | iter m since seen last => obtain ⟨p, m', h1, h2, h3, h4⟩ := h; exact ⟨p, m', h1, h2, h3, (he p rfl h1).trans h4⟩
 | rope cs T row => obtain ⟨p, arr, fz, h1, h2⟩ := h; exact ⟨p, arr, fz, h1, ⟨(he p rfl h1).trans h2.blk, h2.size, h2.le, h2.fix, h2.es, h2.e1, h2.fr, h2.cell⟩⟩
 | dead => exact h
theorem ObjOk.pl {id : Nat} {o : AObj} (h : ObjOk P φ ρ w id o) : ∃ p, φ[id]? = some p := by
 cases o with
 | cells n c d T row => obtain ⟨p, arr, fz, h1, h2⟩ := h; exact ⟨p, h1⟩
 | map es clk => obtain ⟨p, xs, h1, h2, h3⟩ := h; exact ⟨p, h1⟩
 | iter m since seen last => obtain ⟨p, m', h1, _⟩ := h; exact ⟨p, h1⟩
 | rope cs T row => obtain ⟨p, arr, fz, h1, _⟩ := h; exact ⟨p, h1⟩
 | dead => exact h
theorem pre_one (φ : List Pl) (p : Pl) : φ <+: φ ++ [p] := ⟨[p], rfl⟩
theorem Gm.add (hg : Gm P ρ w0 φ s w) {p : Pl} (hlo : w0.w0.heap.size ≤ p.blk) (hhi : p.blk < w.heap.size) {o : AObj} (hfree : ∀ i o' q, s.hp.get i = some o' → live o' = true → φ[i]? = some q → q.blk ≠ p.blk)
  (ho : ObjOk P (φ ++ [p]) ρ w s.nx o) (pc : PC) (hfr : ∀ x ∈ w0.fr, p.blk ≠ x.1) : Gm P ρ w0 (φ ++ [p]) ⟨s.hp.set s.nx o, s.nx + 1, pc⟩ w := by
 have hnew : (φ ++ [p])[s.nx]? = some p := by rw [← hg.len]; simp
 have hold : ∀ i q, i < s.nx → (φ ++ [p])[i]? = some q → φ[i]? = some q := fun i q hi hq => by
  rw [List.getElem?_append_left (by rw [hg.len]; exact hi)] at hq; exact hq
 refine ⟨⟨fun id o' hid => ?_, fun i j oi oj pi pj hi hj li lj qi qj he => ?_⟩, by simp [hg.len], fun id o' hid => ?_, fun id q hq => ?_, hg.kp, fun x hx => ⟨(hg.fr x hx).1, (hg.fr x hx).2.1, fun id q hq => ?_⟩, hg.fo⟩
 ·simp only [Tr.get_set] at hid
  by_cases e : id = s.nx
  ·subst e
   rw [if_pos rfl] at hid
   cases hid
   exact ho
  ·rw [if_neg e] at hid
   exact (hg.hp.obj id o' hid).mono (pre_one _ _)
 ·simp only [Tr.get_set] at hi hj
  by_cases ei : i = s.nx <;> by_cases ej : j = s.nx
  ·rw [ei, ej]
  ·rw [if_neg ej] at hj
   subst ei
   rw [hnew] at qi; cases qi
   exact absurd he.symm (hfree j oj pj hj lj (hold j pj (hg.ids j oj hj) qj))
  ·rw [if_neg ei] at hi
   subst ej
   rw [hnew] at qj; cases qj
   exact absurd he (hfree i oi pi hi li (hold i pi (hg.ids i oi hi) qi))
  ·rw [if_neg ei] at hi
   rw [if_neg ej] at hj
   exact hg.hp.sep i j oi oj pi pj hi hj li lj (hold i pi (hg.ids i oi hi) qi) (hold j pj (hg.ids j oj hj) qj) he
 ·simp only [Tr.get_set] at hid
  by_cases e : id = s.nx
  ·show id < s.nx + 1; omega
  ·rw [if_neg e] at hid
   have := hg.ids id o' hid
   show id < s.nx + 1; omega
 ·rcases Nat.lt_or_ge id φ.length with h | h
  ·rw [List.getElem?_append_left h] at hq
   exact hg.lo id q hq
  ·rw [List.getElem?_append_right h] at hq
   have : q = p := by
    cases e : id - φ.length with
    | zero => rw [e] at hq; simp at hq; exact hq.symm
    | succ k => rw [e] at hq; simp at hq
   subst this
   exact ⟨hlo, hhi⟩
 ·rcases Nat.lt_or_ge id φ.length with h | h
  ·rw [List.getElem?_append_left h] at hq
   exact (hg.fr x hx).2.2 id q hq
  ·rw [List.getElem?_append_right h] at hq
   have : q = p := by
    cases e : id - φ.length with
    | zero => rw [e] at hq; simp at hq; exact hq.symm
    | succ k => rw [e] at hq; simp at hq
   subst this
   exact hfr x hx
theorem Gm.world (hg : Gm P ρ w0 φ s w) (hk : Kp [] w0.w0 w') (hsz : w.heap.size ≤ w'.heap.size) (he : ∀ i o q, s.hp.get i = some o → live o = true → φ[i]? = some q → w'.heap[q.blk]? = w.heap[q.blk]?) (hf : ∀ x ∈ w0.fr, x.1 < w.heap.size → (∀ (id : Nat) (p : Pl), φ[id]? = some p → p.blk ≠ x.1) → w'.heap[x.1]? = w.heap[x.1]?) : Gm P ρ w0 φ s w' :=
 ⟨⟨fun id o hid => (hg.hp.obj id o hid).world fun p hl hp => he id o p hid hl hp, hg.hp.sep⟩, hg.len, hg.ids, fun id p hp => ⟨(hg.lo id p hp).1, Nat.lt_of_lt_of_le (hg.lo id p hp).2 hsz⟩, hk, fun x hx => ⟨Nat.lt_of_lt_of_le (hg.fr x hx).1 hsz, (hf x hx (hg.fr x hx).1 (hg.fr x hx).2.2).trans (hg.fr x hx).2.1, (hg.fr x hx).2.2⟩, hg.fo⟩
theorem Gm.pc (hg : Gm P ρ w0 φ s w) (pc : PC) : Gm P ρ w0 φ ⟨s.hp, s.nx, pc⟩ w := ⟨hg.hp, hg.len, hg.ids, hg.lo, hg.kp, hg.fr, hg.fo⟩
theorem Gm.push (hg : Gm P ρ w0 φ s w) (o : Obj) : Gm P ρ w0 φ s { w with heap := w.heap.push o } := by
 refine hg.world (hg.kp.alloc o) (by simp) (fun i o' q hi hl hq => ?_) (fun x hx hlt _ => ?_)
 ·have := (hg.lo i q hq).2
  show (w.heap.push o)[q.blk]? = _
  rw [Array.getElem?_push_lt this, Array.getElem?_eq_getElem this]
 ·show (w.heap.push o)[x.1]? = _
  rw [Array.getElem?_push_lt hlt, Array.getElem?_eq_getElem hlt]
theorem Gm.kill (hg : Gm P ρ w0 φ s w) {id : Nat} {o : AObj} (hid : s.hp.get id = some o) : Gm P ρ w0 φ (killS s id) w := by
 refine ⟨⟨fun i o' hi => ?_, fun i j oi oj pi pj hi hj li lj qi qj he => ?_⟩, hg.len, fun i o' hi => ?_, hg.lo, hg.kp, hg.fr, hg.fo⟩
 ·simp only [killS, Tr.get_set] at hi
  by_cases e : i = id
  ·subst e
   rw [if_pos rfl] at hi; cases hi
   exact (hg.hp.obj _ _ hid).pl
  ·rw [if_neg e] at hi; exact hg.hp.obj i o' hi
 ·simp only [killS, Tr.get_set] at hi hj
  by_cases ei : i = id
  ·rw [if_pos ei] at hi; cases hi; cases li
  ·by_cases ej : j = id
   ·rw [if_pos ej] at hj; cases hj; cases lj
   ·rw [if_neg ei] at hi
    rw [if_neg ej] at hj
    exact hg.hp.sep i j oi oj pi pj hi hj li lj qi qj he
 ·simp only [killS, Tr.get_set] at hi
  show i < s.nx
  by_cases e : i = id
  ·rw [e]; exact hg.ids _ _ hid
  ·rw [if_neg e] at hi; exact hg.ids i o' hi
theorem Gm.kill_free (hg : Gm P ρ w0 φ s w) {id : Nat} {o : AObj} {p : Pl} (hid : s.hp.get id = some o) (hl : live o = true) (hp : φ[id]? = some p) : ∀ i o' q, (killS s id).hp.get i = some o' → live o' = true → φ[i]? = some q → q.blk ≠ p.blk := by
 intro i o' q hi hl' hq he
 simp only [killS, Tr.get_set] at hi
 by_cases e : i = id
 ·rw [if_pos e] at hi; cases hi; cases hl'
 ·rw [if_neg e] at hi
  exact e (hg.hp.sep i id o' o q p hi hid hl' hl hq hp he)
theorem setL_get : ∀ (l : List AV) (off : Nat) (c : Tr AV) (i : Nat), (setL c off l).get i = if off ≤ i ∧ i < off + l.length then l[i - off]? else c.get i
 | [], off, c, i => by rw [if_neg (by simp only [List.length_nil]; omega)]; rfl
 | v :: l, off, c, i => by
  show (setL (c.set off v) (off + 1) l).get i = _
  rw [setL_get l (off + 1) (c.set off v) i, Tr.get_set]
  simp only [List.length_cons]
  by_cases h1 : i = off
  ·subst h1
   rw [if_neg (by omega), if_pos rfl, if_pos (by omega)]
   simp
  ·rw [if_neg h1]
   by_cases h2 : off + 1 ≤ i ∧ i < off + 1 + l.length
   ·rw [if_pos h2, if_pos (by omega), show i - off = (i - (off + 1)) + 1 by omega]
    simp
   ·rw [if_neg h2, if_neg (by omega)]
theorem lenL_eq : ∀ (l : List AV), lenL l = l.length
 | [] => rfl
 | v :: l => by show lenL l + 1 = _; rw [lenL_eq l]; rfl
theorem allOne_spec : ∀ {l : List AV}, allOne l = true → ∀ v ∈ l, oneB v = true
 | [], _, v, hv => by simp at hv
 | u :: l, h, v, hv => by
  have h : Bool.rec (motive := fun _ => Bool) false (allOne l) (oneB u) = true := h
  cases hu : oneB u with
  | false => rw [hu] at h; cases h
  | true =>
   rw [hu] at h
   rcases List.mem_cons.1 hv with rfl | hv
   ·exact hu
   ·exact allOne_spec h v hv
theorem one_conc {v : AV} (h : oneB v = true) {x : Value} (hx : conc φ ρ v = some x) : x.oneCell' = true := by
 cases v <;> simp only [conc, Option.map_eq_some_iff, Option.bind_eq_some_iff, Option.some.injEq] at hx
 case int => subst hx; rfl
 case bool => subst hx; rfl
 case ptr => obtain ⟨p, _, rfl⟩ := hx; rfl
 case sl => obtain ⟨p, _, rfl⟩ := hx; rfl
 case emp => obtain ⟨p, _, rfl⟩ := hx; split <;> rfl
 case em0 => obtain ⟨p, _, rfl⟩ := hx; rfl
 case map => obtain ⟨p, _, rfl⟩ := hx; rfl
 case fn => obtain ⟨p, _, q, _, rfl⟩ := hx; rfl
 case iface => obtain ⟨p, _, rfl⟩ := hx; rfl
 case agg => cases h
 case tup => cases h
 case raw =>
  subst hx
  rename_i y
  have h : rawOk y = true := h
  cases y <;> first | rfl | (cases h; done)
 case opq => cases h
 case osl => subst hx; rfl
 case dfr => cases h
 case ssl cap => obtain ⟨p, _, rfl⟩ := hx; cases cap with | some c => rfl | none => dsimp only; split <;> rfl
 case fsl => split at hx <;> cases hx; rfl
theorem CelOk.row {l : List AV} {xs : List Value} (hx : concL φ ρ l = some xs) (h1 : allOne l = true) {p : Pl} {arr : Array Value} {fz : Nat × Nat} {T : TypeId} {row : Bool} (hb : w.heap[p.blk]? = some (.cells arr T fz)) (hsz : arr.size = p.sz) (hle : p.sh + l.length ≤ p.sz)
  (hfix : row = false → p.sh = 0 ∧ p.sz = l.length ∧ fz = (0, 0) ∧ p.es = 1) (hes : row = true → sizeA P T = some p.es ∧ 0 < p.es) (hfr : ∀ i, i < p.sz → ¬ (fz.1 ≤ i ∧ i < fz.2)) (hc : ∀ i, i < l.length → arr[p.sh + i]? = xs[i]?) : CelOk P φ ρ w p arr fz l.length (trOf l) none T row := by
 refine ⟨hb, hsz, hle, hfix, hes, hfr, fun i hi => ?_⟩
 have hv : l[i]? = some l[i] := List.getElem?_eq_getElem hi
 obtain ⟨x, hx1, hx2⟩ := concL_get hx hv
 refine ⟨l[i], x, ?_, hx1, ?_, allOne_spec h1 _ (List.getElem_mem hi)⟩
 ·unfold celA trOf
  rw [setL_get, if_pos (by simp; exact hi)]
  simp [hv]
 ·rw [hc i hi, hx2]
theorem storeCells_run {g o : Nat} {T : TypeId} {fz : Nat × Nat} : ∀ (vs : List Value) (i : Nat) (w : World) (arr : Array Value), w.heap[g]? = some (.cells arr T fz) → o + i + vs.length ≤ arr.size → (∀ i, i < arr.size → ¬ (fz.1 ≤ i ∧ i < fz.2)) → (∀ v ∈ vs, v.oneCell' = true) →
  ∃ w' arr', (storeCells ⟨g, o, none⟩ vs i).run P w = .ok () w' ∧ w'.heap[g]? = some (.cells arr' T fz) ∧ arr'.size = arr.size ∧ (∀ k, arr'[k]? = if o + i ≤ k ∧ k < o + i + vs.length then vs[k - (o + i)]? else arr[k]?) ∧ Kp [g] w w' ∧ w'.heap.size = w.heap.size
 | [], i, w, arr, hb, _, _, _ => ⟨w, arr, rfl, hb, rfl, fun k => by rw [if_neg (by simp only [List.length_nil]; omega)], .refl _ _, rfl⟩
 | v :: vs, i, w, arr, hb, hle, hfr, h1 => by
  simp only [List.length_cons] at hle
  have hlt : o + i < arr.size := by omega
  have hcell : w.cell? ⟨g, o + i, none⟩ = some arr[o + i] := by unfold World.cell?; simp [hb, hlt]
  have hfz : w.frozen? ⟨g, o + i, none⟩ = false := by
   unfold World.frozen?
   simp only [hb]
   have := hfr (o + i) hlt
   simp only [Bool.and_eq_false_iff, decide_eq_false_iff_not]
   omega
  have hst : (store ((⟨g, o, none⟩ : Addr).add i) v).run P w = .ok () (w.setCell ⟨g, o + i, none⟩ v) := by
   rw [add_plain, run_store P w _ v .plain (h1 v (by simp))]
   simp [hcell, hfz]
  have hb' : (w.setCell ⟨g, o + i, none⟩ v).heap[g]? = some (.cells (arr.setIfInBounds (o + i) v) T fz) := by
   simp [World.setCell, Array.getElem?_modify, hb]
  obtain ⟨w', arr', r1, r2, r3, r4, r5, r6⟩  := storeCells_run (o := o) vs (i + 1) (w.setCell ⟨g, o + i, none⟩ v) _ hb' (by simp; omega) (by simpa using hfr) (fun u hu => h1 u (by simp [hu]))
  refine ⟨w', arr', ?_, r2, by rw [r3]; simp, fun k => ?_, ?_, by rw [r6]; simp [World.setCell]⟩
  ·rw [storeCells, Sem.run_bind, hst]; exact r1
  ·rw [r4 k]
   simp only [List.length_cons]
   rcases Nat.lt_trichotomy k (o + i) with h | h | h
   ·rw [if_neg (by omega), if_neg (by omega), Array.getElem?_setIfInBounds_ne (by omega)]
   ·subst h
    rw [if_neg (by omega), if_pos (by omega)]
    simp [hlt]
   ·by_cases h2 : k < o + (i + 1) + vs.length
    ·rw [if_pos (by omega), if_pos (by omega), show k - (o + i) = (k - (o + (i + 1))) + 1 by omega]
     simp
    ·rw [if_neg (by omega), if_neg (by omega), Array.getElem?_setIfInBounds_ne (by omega)]
  ·exact (Kp.setCell (Kp.refl [g] w) (.inl (by simp)) v).trans r5
end
end Go.Proofs.YtooebogidjejoaaGreat
namespace Go.Proofs.YtooebogidjejoaaGreat
open Go
section
variable {P : Program} {ρ : Nat → Int} {w0 : Base} {D : Dn}
theorem Gm.upd {φ : List Pl} {s : St} {w w' : World} (hg : Gm P ρ w0 φ s w) {id : Nat} {o o' : AObj} {p : Pl} (hid : s.hp.get id = some o) (hl : live o = true) (hp : φ[id]? = some p) (hk : Kp [p.blk] w w') (ho : ObjOk P φ ρ w' id o') : Gm P ρ w0 φ ⟨s.hp.set id o', s.nx, s.pc⟩ w' := by
 have hlt : ∀ (i : Nat) (q : Pl), φ[i]? = some q → q.blk < w.heap.size := fun i q hq => (hg.lo i q hq).2
 refine ⟨⟨fun i oi hi => ?_, fun i j oi oj pi pj hi hj li lj qi qj he => ?_⟩, hg.len, fun i oi hi => ?_, fun i q hq => ⟨(hg.lo i q hq).1, Nat.lt_of_lt_of_le (hlt i q hq) hk.size⟩, ?_, fun x hx => ⟨Nat.lt_of_lt_of_le (hg.fr x hx).1 hk.size, (hk.block x.1 (hg.fr x hx).1 (by simp only [List.mem_singleton]; exact fun e => (hg.fr x hx).2.2 id p hp e.symm)).trans (hg.fr x hx).2.1, (hg.fr x hx).2.2⟩, hg.fo⟩
 ·simp only [Tr.get_set] at hi
  by_cases e : i = id
  ·subst e
   rw [if_pos rfl] at hi; cases hi
   exact ho
  ·rw [if_neg e] at hi
   refine (hg.hp.obj i oi hi).world fun q hlq hq => hk.block q.blk (hlt i q hq) ?_
   simp only [List.mem_singleton]
   intro he
   exact e (hg.hp.sep i id oi o q p hi hid hlq hl hq hp he)
 ·simp only [Tr.get_set] at hi hj
  have gi : ∃ oi', s.hp.get i = some oi' ∧ live oi' = true := by
   by_cases e : i = id
   ·subst e; exact ⟨o, hid, hl⟩
   ·rw [if_neg e] at hi; exact ⟨oi, hi, li⟩
  have gj : ∃ oj', s.hp.get j = some oj' ∧ live oj' = true := by
   by_cases e : j = id
   ·subst e; exact ⟨o, hid, hl⟩
   ·rw [if_neg e] at hj; exact ⟨oj, hj, lj⟩
  obtain ⟨oi', a1, a2⟩ := gi
  obtain ⟨oj', b1, b2⟩ := gj
  exact hg.hp.sep i j oi' oj' pi pj a1 b1 a2 b2 qi qj he
 ·simp only [Tr.get_set] at hi
  show i < s.nx
  by_cases e : i = id
  ·rw [e]; exact hg.ids _ _ hid
  ·rw [if_neg e] at hi; exact hg.ids i oi hi
 ·refine hg.kp.trans' hk (fun _ h => .inl h) fun i hi => .inr ?_
  simp only [List.mem_singleton] at hi
  subst hi
  exact (hg.lo id p hp).1
theorem stP_sound {s : St} {id off : Nat} {l : List AV} {κ : St → R} (hD : storeL s id off l κ ∈ D) : ∃ s', κ s' ∈ D ∧ s'.pc = s.pc ∧ ∀ {w0 φ w p xs}, Gm P ρ w0 φ s w → φ[id]? = some p → concL φ ρ l = some xs → ∃ w', (storeCells ⟨p.blk, p.sh + off, none⟩ xs).run P w = .ok () w' ∧ Gm P ρ w0 φ s' w' := by
 obtain ⟨n, c, d, T, r, hg, h1⟩ := objK_inv hD
 unfold stP at h1
 obtain ⟨h1o, h2⟩ := brec_inv h1
 obtain ⟨hle, h3⟩ := brec_inv h2
 rw [natBle, lenL_eq] at hle
 have hle : off + l.length ≤ n := of_decide_eq_true hle
 have h3 : κ ⟨s.hp.set id (.cells n (setL c off l) d T r), s.nx, s.pc⟩ ∈ D := by cases s; exact h3
 refine ⟨_, h3, rfl, fun {w0 φ w p xs} hm hp hx => ?_⟩
 obtain ⟨p', arr, fz, hp', hc⟩ := hm.hp.obj _ _ hg
 rw [hp] at hp'; cases hp'
 have hxl := concL_length hx
 have h1x : ∀ v ∈ xs, v.oneCell' = true := by
  intro v hv
  obtain ⟨i, hi, rfl⟩ := List.mem_iff_getElem.1 hv
  have hi' : i < l.length := by omega
  obtain ⟨x, e1, e2⟩ := concL_get hx (List.getElem?_eq_getElem hi')
  rw [List.getElem?_eq_getElem hi] at e2
  cases e2
  exact one_conc (allOne_spec h1o _ (List.getElem_mem hi')) e1
 have hc_le := hc.le
 have hc_sz := hc.size
 obtain ⟨w', arr', r1, r2, r3, r4, r5, r6⟩ := storeCells_run (P := P) (g := p.blk) (o := p.sh + off) xs 0 w arr hc.blk (by omega) (by rw [hc_sz]; exact hc.fr) h1x
 refine ⟨w', r1, hm.upd hg rfl hp r5 ⟨p, arr', fz, hp, ⟨r2, by rw [r3, hc_sz], hc_le, hc.fix, hc.es, hc.fr, fun i hi => ?_⟩⟩⟩
 by_cases hin : off ≤ i ∧ i < off + l.length
 ·have hi' : i - off < l.length := by omega
  obtain ⟨x, e1, e2⟩ := concL_get hx (List.getElem?_eq_getElem hi')
  refine ⟨l[i - off], x, ?_, e1, ?_, allOne_spec h1o _ (List.getElem_mem hi')⟩
  ·unfold celA
   rw [setL_get, if_pos hin, List.getElem?_eq_getElem hi']
  ·rw [r4, if_pos (by omega), ← e2]
   congr 1; omega
 ·obtain ⟨v, x, e1, e2, e3, e4⟩ := hc.cell i hi
  refine ⟨v, x, ?_, e2, ?_, e4⟩
  ·unfold celA at e1 ⊢
   rw [setL_get, if_neg hin]
   exact e1
  ·rw [r4, if_neg (by omega)]
   exact e3
theorem run_newRow {w : World} {T : TypeId} {cs : Array Value} : (newRow T cs).run P w = .ok ⟨w.heap.size, 0, none⟩ { w with heap := w.heap.push (.cells cs T) } := by
 simp [newRow, newObj, Sem.run, Sem.run_bind]
theorem newL_sound {s : St} {l : List AV} {T : TypeId} {row : Bool} {κ : Nat → St → R} (hD : newL s l T row κ ∈ D) : ∃ s', κ s.nx s' ∈ D ∧ s'.pc = s.pc ∧ ∀ {w0 φ w xs p arr fz}, Gm P ρ w0 φ s w → concL φ ρ l = some xs → w0.w0.heap.size ≤ p.blk → p.blk < w.heap.size →
  (∀ i o' q, s.hp.get i = some o' → live o' = true → φ[i]? = some q → q.blk ≠ p.blk) → w.heap[p.blk]? = some (.cells arr T fz) → arr.size = p.sz → p.sh + l.length ≤ p.sz → (row = false → p.sh = 0 ∧ p.sz = l.length ∧ fz = (0, 0) ∧ p.es = 1) → (row = true → sizeA P T = some p.es ∧ 0 < p.es) →
  (∀ i, i < p.sz → ¬ (fz.1 ≤ i ∧ i < fz.2)) → (∀ i, i < l.length → arr[p.sh + i]? = xs[i]?) → (∀ x ∈ w0.fr, p.blk ≠ x.1) → Gm P ρ w0 (φ ++ [p]) s' w := by
 obtain ⟨h1, h2⟩ := brec_inv hD
 rw [forceN_eq] at h2
 unfold newK at h2
 obtain ⟨hp, nx, pc⟩ := s
 have h2 : forceN nx (fun nx => κ nx ⟨hp.set nx (.cells (lenL l) (trOf l) none T row), Nat.succ nx, pc⟩) ∈ D := h2
 rw [forceN_eq] at h2
 refine ⟨_, h2, rfl, fun {w0 φ w xs p arr fz} hm hx hlo hhi hfree hb hsz hle hfix hes hfr hc hfo => ?_⟩
 have ho : ObjOk P (φ ++ [p]) ρ w nx (.cells l.length (trOf l) none T row) := ⟨p, arr, fz, by rw [← show φ.length = nx from hm.len]; simp, (CelOk.row hx h1 hb hsz hle hfix hes hfr hc).mono (pre_one _ _)⟩
 rw [lenL_eq]
 exact hm.add hlo hhi hfree ho pc hfo
theorem newL_fixed {s : St} {l : List AV} {T : TypeId} {κ : Nat → St → R} (hD : newL s l T false κ ∈ D) : ∃ s', κ s.nx s' ∈ D ∧ s'.pc = s.pc ∧ ∀ {w0 φ w xs}, Gm P ρ w0 φ s w → concL φ ρ l = some xs →
  Gm P ρ w0 (φ ++ [⟨w.heap.size, 0, l.length, 1⟩]) s' { w with heap := w.heap.push (.cells xs.toArray T) } ∧ (φ ++ [⟨w.heap.size, 0, l.length, 1⟩])[s.nx]? = some (⟨w.heap.size, 0, l.length, 1⟩ : Pl) := by
 obtain ⟨s', h1, h2, h3⟩ := newL_sound (P := P) (ρ := ρ) hD
 refine ⟨s', h1, h2, fun {w0 φ w xs} hm hx => ⟨?_, by rw [← hm.len]; simp⟩⟩
 have hl := concL_length hx
 refine h3 (p := ⟨w.heap.size, 0, l.length, 1⟩) (arr := xs.toArray) (fz := (0, 0)) (hm.push _) hx hm.kp.size (by simp) (fun i o' q hi hl hq he => ?_) (by simp) (by simp [hl]) (by simp) (fun _ => ⟨rfl, rfl, rfl, rfl⟩) (fun h => by cases h) (fun i _ h => by simp at h) (fun i _ => by simp) (fun x hx => Nat.ne_of_gt (hm.fr x hx).1)
 have := (hm.lo i q hq).2
 simp only at he
 omega
def EffO (P : Program) (ρ : Nat → Int) (w0 : Base) (φ : List Pl) (a : Act) (w : World) (s' : St) (op : Op) (v : AV) : Prop :=
 ∃ φ' x w', φ <+: φ' ∧ conc φ' ρ v = some x ∧ Gm P ρ w0 φ' s' w' ∧ ∀ o : Oper, o.op = op → (execOp a.eval o).run P w = .ok (.value x) w' ∨ ((execOp a.eval o).run P w = .ok .skip w' ∧ x = undef)
theorem EffO.of {φ φ' : List Pl} {a : Act} {w w' : World} {s' : St} {op : Op} {v : AV} {x : Value} {m : Sem Value} (hφ : φ <+: φ') (hx : conc φ' ρ v = some x) (hm : Gm P ρ w0 φ' s' w') (hr : m.run P w = .ok x w') (he : ∀ o : Oper, o.op = op → execOp a.eval o = (do pure (.value (← m)))) : EffO P ρ w0 φ a w s' op v :=
 ⟨φ', x, w', hφ, hx, hm, fun o ho => .inl (by rw [he o ho, Sem.run_bind, hr]; rfl)⟩
theorem EffO.ofU {φ φ' : List Pl} {a : Act} {w w' : World} {s' : St} {op : Op} {m : Sem Unit} (hφ : φ <+: φ') (hm : Gm P ρ w0 φ' s' w') (hr : m.run P w = .ok () w') (he : ∀ o : Oper, o.op = op → execOp a.eval o = (do m; pure .skip)) : EffO P ρ w0 φ a w s' op undefA :=
 ⟨φ', undef, w', hφ, rfl, hm, fun o ho => .inr ⟨by rw [he o ho, Sem.run_bind, hr]; rfl, rfl⟩⟩
theorem store_sound {T : TypeId} {s : St} {a v : AV} {κ : St → R} (hD : storeA P T s a v κ ∈ D) : ∃ s', κ s' ∈ D ∧ s'.pc = s.pc ∧ ∀ {w0 φ w x y}, Gm P ρ w0 φ s w → conc φ ρ a = some x → conc φ ρ v = some y → ∃ w', (Instr.storeAt T x y).run P w = .ok () w' ∧ Gm P ρ w0 φ s' w' := by
 obtain ⟨id, off, rfl, hD⟩ := ptrV_inv hD
 ·skip
  obtain ⟨l, h1, hl⟩ := cellsK_inv hD
  obtain ⟨n, hn, h2⟩ := optK_inv h1
  obtain ⟨he, h3⟩ := brec_inv h2
  rw [natBeq, lenL_eq] at he
  have he := of_decide_eq_true he
  obtain ⟨s', h4, hpc, h5⟩ := stP_sound (P := P) (ρ := ρ) h3
  refine ⟨s', h4, hpc, fun {w0 φ w x y} hm hx hy => ?_⟩
  obtain ⟨p, hp, rfl⟩ := conc_ptr hx
  obtain ⟨w', r1, r2⟩ := h5 hm hp (hl hy)
  refine ⟨w', ?_, r2⟩
  have hsz : y.cells.size = n := by rw [← Array.length_toList, concL_length (hl hy), he]
  simp only [Instr.storeAt, Instr.sureAddr, Sem.run_bind, Sem.run_pure, Result.andThen_ok, storeVar, run_size hn, hsz, ne_eq, not_true_eq_false, if_false]
  simpa using r1
theorem alloc_sound {T : TypeId} {s : St} {κ : AV → St → R} (hD : allocA P T s κ ∈ D) : ∃ v s', κ v s' ∈ D ∧ s'.pc = s.pc ∧ ∀ {w0 φ a w}, Gm P ρ w0 φ s w → EffO P ρ w0 φ a w s' (.alloc T) v := by
 obtain ⟨z, hz, h1⟩ := optK_inv hD
 obtain ⟨l, h2, hl⟩ := cellsK_inv h1
 obtain ⟨s', h3, hpc, h4⟩ := newL_fixed (P := P) (ρ := ρ) h2
 refine ⟨_, s', h3, hpc, fun {w0 φ a w} hm => ?_⟩
 obtain ⟨zv, hzr, hzc⟩ := zero_conc hz (w := w) (φ := φ) (ρ := ρ)
 obtain ⟨r1, r2⟩ := h4 hm (hl hzc)
 refine .of (m := Instr.alloc T true (.tuple #[])) (pre_one _ _) (x := .pointer (some ⟨w.heap.size, 0, none⟩)) (by simp [conc, r2]) r1 ?_ (fun o ho => by unfold execOp; simp only [ho])
 simp [Instr.alloc, Sem.run_bind, hzr, newVar, run_newRow]
theorem box_sound {T : TypeId} {u : AV} {s : St} {κ : AV → St → R} (hD : boxA T u s κ ∈ D) : ∃ v s', κ v s' ∈ D ∧ s'.pc = s.pc ∧ ∀ {w0 φ w x}, Gm P ρ w0 φ s w → conc φ ρ u = some x → ∃ φ' y w', φ <+: φ' ∧ conc φ' ρ v = some y ∧ Gm P ρ w0 φ' s' w' ∧ (Instr.box T x).run P w = .ok y w' := by
 obtain ⟨l, h2, hl⟩ := cellsK_inv hD
 obtain ⟨s', h3, hpc, h4⟩ := newL_fixed (P := P) (ρ := ρ) h2
 refine ⟨_, s', h3, hpc, fun {w0 φ w x} hm hx => ?_⟩
 obtain ⟨r1, r2⟩ := h4 hm (hl hx)
 exact ⟨_, .pointer (some ⟨w.heap.size, 0, none⟩), _, pre_one _ _, by simp [conc, r2], r1, by simp [Instr.box, Sem.run_bind, newVar, run_newRow]⟩
end
end Go.Proofs.YtooebogidjejoaaGreat
