/-
  A run reckoned ahead: operations with an effect do what was reckoned (2): rows made, copied, grown.
  A run reckoned ahead: operations with an effect do what was reckoned (3): copied, grown, maps.
  A run reckoned ahead: operations with an effect do what was reckoned (4): grown rows, maps.
  Ropes: rows that are made, copied, put behind one another.
  A run reckoned ahead: each operation does what was reckoned.
  A run reckoned ahead: operations, regions.
  A run reckoned ahead: regions that draw their order; code; calls.
-/
import Derived.Test.YtooebogidjejoaaGreatCc
set_option linter.unusedVariables false
set_option linter.unusedSimpArgs false
namespace Go.Proofs.YtooebogidjejoaaGreat
open Go
section
variable {P : Program} {ρ : Nat → Int} {w0 : Base} {D : Dn}
def repG {α : Type} (z : List α) : Nat → List α
 | 0 => []
 | n + 1 => z ++ repG z n
theorem repL_eq (z : List AV) : ∀ n, repL z n = repG z n
 | 0 => rfl
 | n + 1 => by show z ++ repL z n = _; rw [repL_eq z n]; rfl
theorem repG_length {α : Type} (z : List α) : ∀ n, (repG z n).length = n * z.length
 | 0 => by simp [repG]
 | n + 1 => by rw [repG, List.length_append, repG_length z n, Nat.add_mul]; omega
theorem repG_get {α : Type} (z : List α) : ∀ (n i : Nat), i < n * z.length → (repG z n)[i]? = z[i % z.length]?
 | 0, i, h => by simp at h
 | n + 1, i, h => by
  rw [repG, List.getElem?_append]
  by_cases hi : i < z.length
  ·rw [if_pos hi, Nat.mod_eq_of_lt hi]
  ·rw [if_neg hi, repG_get z n _ (by rw [Nat.add_mul] at h; omega)]
   congr 1
   conv => rhs; rw [show i = i - z.length + z.length by omega, Nat.add_mod_right]
theorem repG_conc {φ : List Pl} {z : List AV} {xs : List Value} (h : concL φ ρ z = some xs) : ∀ n, concL φ ρ (repG z n) = some (repG xs n)
 | 0 => rfl
 | n + 1 => concL_append.2 ⟨_, _, h, repG_conc h n, rfl⟩
theorem range_rep (z : Array Value) (n : Nat) (hz : 0 < z.size ∨ n = 0) : (Array.range (n * z.size)).map (z[· % z.size]!) = (repG z.toList n).toArray := by
 apply Array.ext_getElem?
 intro i
 by_cases h : i < n * z.size
 ·rw [show ((repG z.toList n).toArray)[i]? = (repG z.toList n)[i]? from by simp, repG_get _ _ _ (by rw [Array.length_toList]; exact h)]
  have h0 : 0 < z.size := by
   rcases hz with h1 | h1
   ·exact h1
   ·subst h1; simp at h
  have hm : i % z.size < z.size := Nat.mod_lt _ h0
  simp [h, hm]
 ·rw [Array.getElem?_eq_none (by simpa using h), Array.getElem?_eq_none (by simp [repG_length]; simpa using h)]
theorem buildS_sound {T : TypeId} {n : Nat} {t : Ts} {parts : Array (Nat × Operand)} {s : St} {κ : AV → St → R} (hD : buildS P T n t parts s κ ∈ D) : ∃ v s', κ v s' ∈ D ∧ s'.pc = s.pc ∧ ∀ {w0 φ sz a w}, GA φ ρ t sz a → Gm P ρ w0 φ s w → EffO P ρ w0 φ a w s' (.buildSlice T n parts) v := by
 obtain ⟨d, hd, h1⟩ := optK_inv hD
 split at h1
 ·rename_i e sz
  obtain ⟨hb, h2⟩ := brec_inv h1
  simp only [Bool.and_eq_true, natBle, decide_eq_true_eq, natBeq, Bool.not_eq_true', decide_eq_false_iff_not] at hb
  obtain ⟨hle, hsz0⟩ := hb
  obtain ⟨z, hz, h3⟩ := optK_inv h2
  obtain ⟨zl, h4, hzl⟩ := cellsK_inv h3
  obtain ⟨ps, h5, hps⟩ := opdParts_inv h4
  obtain ⟨hl, h6⟩ := brec_inv h5
  rw [natBeq, lenL_eq] at hl
  have hl := of_decide_eq_true hl
  obtain ⟨r, h7, hr⟩ := fillA_inv h6
  obtain ⟨s', h8, hpc, h9⟩ := newL_fixed (P := P) (ρ := ρ) h7
  refine ⟨_, s', h8, hpc, fun {w0 φ sz' a w} hg hm => ?_⟩
  obtain ⟨hu, hs⟩ := ixOf_sli hd
  obtain ⟨zv, hzr, hzc⟩ := zero_conc hz (w := w) (φ := φ) (ρ := ρ)
  have hzx := hzl hzc
  have hzs : zv.cells.size = sz := by rw [← Array.length_toList, concL_length hzx, hl]
  obtain ⟨ys, hy, hf⟩ := hr (by rw [repL_eq]; exact repG_conc hzx n) (hps hg)
  obtain ⟨r1, r2⟩ := h9 hm hy
  refine .of (m := Instr.buildSlice T n (parts.map fun (i, x) => (i, a.eval x))) (pre_one _ _) (x := .slice (some ⟨w.heap.size, 0, none⟩) n n) (by simp [conc, r2]) r1 ?_ (fun o ho => by unfold execOp; simp only [ho])
  have hle' : ¬ (n * sz > 2 ^ 24) := by
   have : n * sz ≤ 16777216 := hle
   omega
  have key : Instr.fill (fun i => some (i * sz, sz)) (repG zv.cells.toList n).toArray (parts.map fun (i, x) => (i, a.eval x)).toList = some ys.toArray := by
   rw [Array.toList_map]; exact hf
  generalize (parts.map fun (i, x) => (i, a.eval x)) = pv at key ⊢
  unfold Instr.buildSlice
  simp only [Sem.run_bind, run_underlying hu, Result.andThen_ok, run_size hs, hle', if_false]
  by_cases hn : n * sz = 0
  ·have hn0 : n = 0 := by
    rcases Nat.mul_eq_zero.1 hn with h | h
    ·exact h
    ·exact absurd h hsz0
   subst hn0
   have e : ∀ f : Nat → Value, (Array.range 0).map f = (repG zv.cells.toList 0).toArray := fun f => by simp [repG]
   simp only [Nat.zero_mul, if_true, Sem.run_bind, Sem.run_pure, Result.andThen_ok, e, key, run_newRow]
  ·have e := range_rep zv.cells n (.inl (by omega))
   rw [hzs] at e
   simp only [hn, if_false, Sem.run_bind, hzr, Result.andThen_ok, Sem.run_pure, hzs, e, key, run_newRow]
 ·cases h1
theorem run_askRoom {w : World} {b : Nat} : (askRoom b).run P w = .ok () w := by
 unfold askRoom
 split <;> simp [mark, Sem.run]
theorem wrap_nat {n : Nat} (h : n ≤ 9223372036854775807) : IntKind.i64.wrap (n : Int) = n := by
 rw [← wrapF_eq]
 simp only [wrapF, halfF, modF, show ∀ a b : Int, Int.sub a b = a - b from fun _ _ => rfl, show ∀ a b : Int, Int.add a b = a + b from fun _ _ => rfl, show ∀ a b : Int, Int.emod a b = a % b from fun _ _ => rfl]
 simp only [Int.ofNat_eq_natCast]
 omega
theorem run_makeSlice {w : World} {T e sz by_ l c : Nat} {k k' : IntKind} (hu : P.underlying T = some (.slice e)) (hs : sizeA P e = some sz) (hb : bytesA P e = some by_) (hle : l ≤ c) (hby : by_ * c ≤ 281474976710656) (hc : c ≤ 9223372036854775807) {zv : Value} (hz : (zeroValue e).run P w = .ok zv w) (hzs : zv.cells.size = sz) (hz0 : 0 < sz) :
  (Instr.makeSlice T (.int k l) (.int k' c)).run P w = .ok (.slice (some ⟨w.heap.size, 0, none⟩) l c) { w with heap := w.heap.push (.cells (repG zv.cells.toList c).toArray e) } := by
 simp only [bytesA, Option.map_eq_some_iff] at hb
 obtain ⟨i, hi, rfl⟩ := hb
 have hb1 : ¬ ((i.bytes : Int) * (c : Int) > 2 ^ 48) := by
  have : ((i.bytes * c : Nat) : Int) ≤ 281474976710656 := by omega
  rw [Int.natCast_mul] at this
  omega
 unfold Instr.makeSlice
 simp only [Sem.run_bind, run_underlying hu, Result.andThen_ok, Go.asInt, asIntOf, Sem.run_pure, run_ti hi, wrap_nat (Nat.le_trans hle hc), wrap_nat hc]
 have c1 : (decide ((c : Int) < 0) || decide ((i.bytes : Int) * (c : Int) > 2 ^ 48) || decide ((l : Int) < 0) || decide ((l : Int) > (c : Int))) = false := by
  simp only [Bool.or_eq_false_iff, decide_eq_false_iff_not]
  exact ⟨⟨⟨by omega, hb1⟩, by omega⟩, by omega⟩
 simp only [Bool.or_assoc] at c1
 simp only [Bool.or_assoc, c1, Bool.false_eq_true, if_false, Sem.run_bind, run_askRoom, Result.andThen_ok, run_size hs, Int.toNat_natCast]
 by_cases hn : c * sz = 0
 ·have hc0 : c = 0 := by
   rcases Nat.mul_eq_zero.1 hn with h | h
   ·exact h
   ·omega
  subst hc0
  have e : ∀ f : Nat → Value, (Array.range 0).map f = (repG zv.cells.toList 0).toArray := fun f => by simp [repG]
  simp only [Nat.zero_mul, if_true, Sem.run_bind, Sem.run_pure, Result.andThen_ok, e, run_newRow]
 ·simp only [hn, if_false, Sem.run_bind, hz, Result.andThen_ok, Sem.run_pure]
  have e := range_rep zv.cells c (.inl (by omega))
  rw [hzs] at e
  rw [hzs, e, run_newRow]
  rfl
theorem makeS_sound {T : TypeId} {x y : AV} {s : St} {κ : AV → St → R} (hD : makeS P T x y s κ ∈ D) : ∃ v s', κ v s' ∈ D ∧ s'.pc = s.pc ∧ ∀ {w0 φ w a b}, Gm P ρ w0 φ s w → conc φ ρ x = some a → conc φ ρ y = some b → ∃ φ' z w', φ <+: φ' ∧ conc φ' ρ v = some z ∧ Gm P ρ w0 φ' s' w' ∧ (Instr.makeSlice T a b).run P w = .ok z w' := by
 obtain ⟨k, l, rfl, h1⟩ := asNat_inv hD
 obtain ⟨k', c, rfl, h2⟩ := asNat_inv h1
 obtain ⟨d, hd, h3⟩ := optK_inv h2
 split at h3
 ·rename_i e sz
  obtain ⟨hu, hs⟩ := ixOf_sli hd
  obtain ⟨by_, hby, h4⟩ := optK_inv h3
  obtain ⟨hb, h5⟩ := brec_inv h4
  simp only [Bool.and_eq_true, natBle, decide_eq_true_eq] at hb
  obtain ⟨q1, q2, q3⟩ := hb
  obtain ⟨z, hz, h6⟩ := optK_inv h5
  obtain ⟨zl, h7, hzl⟩ := cellsK_inv h6
  split at h7
  ·rename_i v
   obtain ⟨hb, h8⟩ := brec_inv h7
   simp only [Bool.and_eq_true, natBeq, decide_eq_true_eq] at hb
   obtain ⟨h1v, rfl⟩ := hb
   unfold newK at h8
   obtain ⟨hp, nx, pc⟩ := s
   have h8 := Eq.mp (congrArg (· ∈ D) (forceN_eq nx _)) h8
   refine ⟨_, _, h8, rfl, fun {w0 φ w a b} hm ha hb => ?_⟩
   simp only [conc, SI.ev, Option.some.injEq] at ha hb
   subst ha; subst hb
   obtain ⟨zv, hzr, hzc⟩ := zero_conc hz (w := w) (φ := φ) (ρ := ρ)
   have hzx := hzl hzc
   obtain ⟨xv, ys, e1, e2, e3⟩ := concL_cons.1 hzx
   simp only [concL, Option.some.injEq] at e2
   subst e2
   have hzs : zv.cells.size = 1 := by rw [← Array.length_toList, e3]; rfl
   have hrun := run_makeSlice (P := P) (w := w) (k := k) (k' := k') hu hs hby q1 q2 q3 hzr hzs (by omega)
   let w' : World := { w with heap := w.heap.push (.cells (repG zv.cells.toList c).toArray e) }
   have hlen : φ.length = nx := hm.len
   have hrl : (repG zv.cells.toList c).length = c := by rw [repG_length, Array.length_toList, hzs, Nat.mul_one]
   have ho : ObjOk P (φ ++ [⟨w.heap.size, 0, c, 1⟩]) ρ w' nx (.cells c .nil (some v) e false) := by
    refine ⟨⟨w.heap.size, 0, c, 1⟩, (repG zv.cells.toList c).toArray, (0, 0), by rw [← hlen]; simp, ⟨by simp [w'], by simp [hrl], by simp, fun _ => ⟨rfl, rfl, rfl, rfl⟩, (fun h => by cases h), (fun i _ h => by simp at h), fun i hi => ⟨v, xv, (by unfold celA; rw [Tr.get_nil]), conc_mono (pre_one _ _) _ _ e1, ?_, h1v⟩⟩⟩
    simp only [Nat.zero_add, List.getElem?_toArray]
    rw [repG_get _ _ _ (by rw [Array.length_toList, hzs]; omega), e3]
    simp [Nat.mod_one]
   have hm' := (hm.push (.cells (repG zv.cells.toList c).toArray e)).add (p := ⟨w.heap.size, 0, c, 1⟩) hm.kp.size (by simp) (fun i o' q hi hl hq he => by have := (hm.lo i q hq).2; simp only at he; omega) ho pc (fun x hx => Nat.ne_of_gt (hm.fr x hx).1)
   refine ⟨_, _, w', pre_one _ _, ?_, hm', hrun⟩
   simp only [conc]
   rw [show (φ ++ [(⟨w.heap.size, 0, c, 1⟩ : Pl)])[nx]? = some ⟨w.heap.size, 0, c, 1⟩ by rw [← hlen]; simp]
   rfl
  ·rename_i z0 hne
   obtain ⟨hb, h8⟩ := brec_inv h7
   simp only [Bool.and_eq_true, natBeq, lenL_eq, decide_eq_true_eq, Bool.not_eq_true', decide_eq_false_iff_not] at hb
   obtain ⟨hl, hz0⟩ := hb
   obtain ⟨s', h9, hpc, h10⟩ := newL_fixed (P := P) (ρ := ρ) h8
   refine ⟨_, s', h9, hpc, fun {w0 φ w a b} hm ha hb => ?_⟩
   simp only [conc, SI.ev, Option.some.injEq] at ha hb
   subst ha; subst hb
   obtain ⟨zv, hzr, hzc⟩ := zero_conc hz (w := w) (φ := φ) (ρ := ρ)
   have hzx := hzl hzc
   have hzs : zv.cells.size = sz := by rw [← Array.length_toList, concL_length hzx, hl]
   have hrun := run_makeSlice (P := P) (w := w) (k := k) (k' := k') hu hs hby q1 q2 q3 hzr hzs (by omega)
   obtain ⟨r1, r2⟩ := h10 hm (by rw [repL_eq]; exact repG_conc hzx c)
   exact ⟨_, _, _, pre_one _ _, by simp [conc, r2], r1, hrun⟩
 ·cases h3
end
end Go.Proofs.YtooebogidjejoaaGreat
namespace Go.Proofs.YtooebogidjejoaaGreat
open Go
section
variable {P : Program} {ρ : Nat → Int} {w0 : Base} {D : Dn}
def lenV : AV → Option Nat
 | .sl _ _ len _ => some len
 | .emp _ _ _ => some 0
 | .em0 _ _ _ => some 0
 | .raw (.slice _ n _) => some n
 | .raw (.string b) => some b.size
 | _ => none
theorem lenOfK_inv {x : AV} {κ : Nat → R} (hD : lenOfK x κ ∈ D) : ∃ n, lenV x = some n ∧ κ n ∈ D := by
 unfold lenOfK at hD
 split at hD <;> first | exact ⟨_, rfl, hD⟩ | cases hD
theorem lenOf_run {x : AV} {n : Nat} (h : lenV x = some n) {φ : List Pl} {y : Value} (hy : conc φ ρ x = some y) {w : World} : (Builtin.lenOf y).run P w = .ok n w := by
 unfold lenV at h
 split at h <;> cases h
 ·obtain ⟨p, _, rfl⟩ := conc_sl hy; rfl
 ·simp only [conc, Option.map_eq_some_iff] at hy
  obtain ⟨p, _, rfl⟩ := hy
  split <;> rfl
 ·simp only [conc, Option.map_eq_some_iff] at hy
  obtain ⟨p, _, rfl⟩ := hy
  rfl
 ·simp only [conc, Option.some.injEq] at hy
  subst hy; rfl
 ·simp only [conc, Option.some.injEq] at hy
  subst hy; rfl
theorem bytes_conc {φ : List Pl} : ∀ (l : List UInt8), concL φ ρ (l.map fun x => AV.int .u8 (.lit (.ofNat x.toNat))) = some (l.map fun b => Value.int .u8 b.toNat)
 | [] => rfl
 | b :: l => concL_cons.2 ⟨_, _, rfl, bytes_conc l, rfl⟩
theorem firstK_sound {h : Tr AObj} {s n : Nat} {x : AV} {κ : List AV → R} (hD : firstK h s n x κ ∈ D) : ∃ l, κ l ∈ D ∧ (∀ m, lenV x = some m → n ≤ m → l.length = n * s) ∧ ∀ {φ w y}, Hp P φ ρ h w → conc φ ρ x = some y → ∃ arr, (Builtin.firstCells s n y).run P w = .ok arr w ∧ concL φ ρ l = some arr.toList := by
 unfold firstK at hD
 split at hD
 ·rename_i id off len cap
  obtain ⟨m, c, d, T, r, hg, h1⟩ := objK_inv hD
  obtain ⟨hle, h2⟩ := brec_inv h1
  rw [natBle] at hle
  have hle : off + n * s ≤ m := of_decide_eq_true hle
  obtain ⟨l, hl, h3, hcl⟩ := ldN_inv h2
  have hl : l.length = n * s := hl
  refine ⟨l, h3, fun _ _ _ => hl, fun {φ w y} hp hy => ?_⟩
  obtain ⟨p, arr, fz, hpl, hc⟩ := hp.obj _ _ hg
  obtain ⟨p', hp', rfl⟩ := conc_sl hy
  rw [hpl] at hp'; cases hp'
  obtain ⟨xs, hxs, hcx⟩ := cells_row hc l off (by rw [hl]; exact hle) (fun i hi => hcl i (by rw [hl] at hi; exact hi))
  have hr := run_loadCells_list (P := P) (w := w) ⟨p.blk, p.sh + off, none⟩ xs hcx
  have hm : xs.length = n * s := by rw [concL_length hxs, hl]
  rw [hm] at hr
  exact ⟨xs.toArray, hr, by simpa using hxs⟩
 ·rename_i id a b
  obtain ⟨hn, h1⟩ := brec_inv hD
  rw [natBeq] at hn
  have hn := of_decide_eq_true hn
  subst hn
  refine ⟨[], h1, fun _ _ _ => by simp, fun {φ w y} hp hy => ?_⟩
  simp only [conc, Option.map_eq_some_iff] at hy
  obtain ⟨p, _, rfl⟩ := hy
  refine ⟨#[], ?_, rfl⟩
  split <;> simp [Builtin.firstCells, loadCells, loadCellsFrom]
 ·rename_i id a b
  obtain ⟨hn, h1⟩ := brec_inv hD
  rw [natBeq] at hn
  have hn := of_decide_eq_true hn
  subst hn
  refine ⟨[], h1, fun _ _ _ => by simp, fun {φ w y} hp hy => ?_⟩
  simp only [conc, Option.map_eq_some_iff] at hy
  obtain ⟨p, _, rfl⟩ := hy
  refine ⟨#[], ?_, rfl⟩
  simp [Builtin.firstCells, loadCells, loadCellsFrom]
 ·obtain ⟨hn, h1⟩ := brec_inv hD
  rw [natBeq] at hn
  have hn := of_decide_eq_true hn
  subst hn
  refine ⟨[], h1, fun _ _ _ => by simp, fun {φ w y} hp hy => ?_⟩
  simp only [conc, Option.some.injEq] at hy
  subst hy
  exact ⟨#[], rfl, rfl⟩
 ·rename_i b
  obtain ⟨hs, h1⟩ := brec_inv hD
  rw [natBeq] at hs
  have hs := of_decide_eq_true hs
  subst hs
  refine ⟨_, h1, fun m hm hle => ?_, fun {φ w y} hp hy => ?_⟩
  ·cases hm
   simp
   have : b.size = b.data.size := rfl
   omega
  ·simp only [conc, Option.some.injEq] at hy
   subst hy
   refine ⟨(b.extract 0 n).data.map fun b => .int .u8 b.toNat, rfl, ?_⟩
   rw [Array.toList_map, ← bytes_conc (φ := φ) (ρ := ρ)]
   congr 1
   simp [ByteArray.extract, ByteArray.copySlice]
 ·cases hD
theorem Tr.setP_setP {α : Type} (x y : α) : ∀ (p : Pos) (t : Tr α), Tr.setP y p (Tr.setP x p t) = Tr.setP y p t
 | .here, t => by cases t <;> rfl
 | .left p, t => by cases t with
  | nil => exact congrArg (fun l => Tr.node none l .nil) (Tr.setP_setP x y p .nil)
  | node v l r => exact congrArg (fun l => Tr.node v l r) (Tr.setP_setP x y p l)
 | .right p, t => by cases t with
  | nil => exact congrArg (fun r => Tr.node none .nil r) (Tr.setP_setP x y p .nil)
  | node v l r => exact congrArg (fun r => Tr.node v l r) (Tr.setP_setP x y p r)
theorem Tr.set_set {α : Type} (t : Tr α) (k : Nat) (x y : α) : (t.set k x).set k y = t.set k y := Tr.setP_setP x y _ t
theorem Gm.swap {φ : List Pl} {s : St} {w : World} (hg : Gm P ρ w0 φ s w) {id n : Nat} {c c' : Tr AV} {d d' : Option AV} {T : TypeId} {r : Bool} (hid : s.hp.get id = some (.cells n c d T r)) (h : ∀ i, i < n → celA c' d' i = celA c d i) : Gm P ρ w0 φ ⟨s.hp.set id (.cells n c' d' T r), s.nx, s.pc⟩ w := by
 obtain ⟨p, arr, fz, hp, hc⟩ := hg.hp.obj _ _ hid
 refine hg.upd hid rfl hp (.refl _ _) ⟨p, arr, fz, hp, ⟨hc.blk, hc.size, hc.le, hc.fix, hc.es, hc.fr, fun i hi => ?_⟩⟩
 obtain ⟨v, x, e1, e2, e3, e4⟩ := hc.cell i hi
 exact ⟨v, x, (h i hi).trans e1, e2, e3, e4⟩
theorem cellK_eq {c : Tr AV} {d : Option AV} {i : Nat} {v : AV} (h : celA c d i = some v) (κ : AV → R) : cellK c d i κ = κ v := by
 unfold celA at h
 unfold cellK
 cases hc : c.get i with
 | some u => rw [hc] at h; cases h; rfl
 | none => rw [hc] at h; have h : d = some v := h; rw [h]; rfl
theorem ldN_ok {c : Tr AV} {d : Option AV} : ∀ (m off : Nat), (∀ i, i < m → ∃ v, celA c d (off + i) = some v) → ∃ l, l.length = m ∧ (∀ κ, ldN c d off m κ = κ l) ∧ ∀ i, i < m → l[i]? = celA c d (off + i)
 | 0, off, h => ⟨[], rfl, fun κ => rfl, fun i hi => absurd hi (Nat.not_lt_zero _)⟩
 | m + 1, off, h => by
  obtain ⟨v, hv⟩ := h 0 (Nat.succ_pos _)
  obtain ⟨l, h1, h2, h3⟩ := ldN_ok m (off + 1) fun i hi => by
   obtain ⟨u, hu⟩ := h (i + 1) (by omega)
   exact ⟨u, by rw [← hu]; congr 1; omega⟩
  refine ⟨v :: l, by simp [h1], fun κ => ?_, fun i hi => ?_⟩
  ·show cellK c d off (fun v => ldN c d (off + 1) m fun l => κ (v :: l)) = _
   rw [cellK_eq (i := off) hv, h2]
  ·cases i with
   | zero => exact hv.symm
   | succ i =>
    rw [List.getElem?_cons_succ, h3 i (by omega)]
    congr 1; omega
theorem allOne_of {l : List AV} (h : ∀ v ∈ l, oneB v = true) : allOne l = true := by
 induction l with
 | nil => rfl
 | cons v l ih =>
  show Bool.rec (motive := fun _ => Bool) false (allOne l) (oneB v) = true
  rw [h v (by simp), ih fun u hu => h u (by simp [hu])]
theorem allOne_mem {l : List AV} (h : allOne l = true) : ∀ v ∈ l, oneB v = true := fun v hv => allOne_spec h v hv
theorem Tr.setP_same {α : Type} (x : α) : ∀ (p : Pos) (t : Tr α), Tr.getP p t = some x → Tr.setP x p t = t
 | .here, t, h => by cases t with
  | nil => cases h
  | node v l r => have h : v = some x := h; rw [h]; rfl
 | .left p, t, h => by cases t with
  | nil => cases h
  | node v l r => exact congrArg (fun l => Tr.node v l r) (Tr.setP_same x p l h)
 | .right p, t, h => by cases t with
  | nil => cases h
  | node v l r => exact congrArg (fun r => Tr.node v l r) (Tr.setP_same x p r h)
theorem Tr.set_same {α : Type} {t : Tr α} {k : Nat} {x : α} (h : t.get k = some x) : t.set k x = t := Tr.setP_same x _ t h
theorem copyG_sound {T e sz m dl : Nat} {s : St} {d x : AV} {Ts : Array TypeId} {κ : AV → St → R} (hT : Ts[0]? = some T) (hu : P.underlying T = some (.slice e)) (hs : sizeA P e = some sz) (hm : lenV x = some m) (hdl : lenV d = some dl) (h3 : copyG sz (min m dl) s d x κ ∈ D) : ∃ v s', κ v s' ∈ D ∧ s'.pc = s.pc ∧ ∀ {w0 φ w a b}, Gm P ρ w0 φ s w → conc φ ρ d = some a → conc φ ρ x = some b → ∃ y w', conc φ ρ v = some y ∧ Gm P ρ w0 φ s' w' ∧ ∀ R', (Builtin.copy_ Ts R' #[a, b]).run P w = .ok y w' := by
 have h3 : firstK s.hp sz (min m dl) x (copyD s d (min m dl) κ) ∈ D := h3
 obtain ⟨l, h4, hll, hf⟩ := firstK_sound (P := P) (ρ := ρ) h3
 have base : ∀ {w0 φ w a b}, Gm P ρ w0 φ s w → conc φ ρ d = some a → conc φ ρ x = some b → ∃ arr : Array Value, concL φ ρ l = some arr.toList ∧ ∀ (w' : World) (p : Option Addr) (n c : Nat), a = .slice p n c → ((match p with | some q => storeCells q arr.toList | none => pure ()).run P w = .ok () w') → ∀ R', (Builtin.copy_ Ts R' #[a, b]).run P w = .ok (.int .i64 (min m dl : Nat)) w' := by
  intro w0 φ w a b hg ha hb
  obtain ⟨arr, r1, r2⟩ := hf hg.hp hb
  refine ⟨arr, r2, fun w' p n c e hst R' => ?_⟩
  subst e
  have hn : n = dl := by
   have := lenOf_run (P := P) hdl ha (w := w)
   simp [Builtin.lenOf] at this
   exact this
  subst hn
  unfold Builtin.copy_
  simp only [hT, List.getElem?_toArray, List.getElem?_cons_zero, List.getElem?_cons_succ, Sem.run_bind, run_underlying hu, Result.andThen_ok, lenOf_run hm hb, run_size hs]
  rw [show Nat.min m n = min m n from rfl, r1]
  simp only [Result.andThen_ok]
  cases p with
  | none =>
   simp only [Sem.run_pure, Result.ok.injEq, true_and] at hst
   subst hst
   rfl
  | some q =>
   simp only [Sem.run_bind]
   simp only at hst
   rw [hst]; rfl
 unfold copyD at h4
 split at h4
 ·rename_i id off len cap
  obtain ⟨s', h5, hpc, h6⟩ := stP_sound (P := P) (ρ := ρ) h4
  refine ⟨_, s', h5, hpc, fun {w0 φ w a b} hg ha hb => ?_⟩
  obtain ⟨arr, r1, r2⟩ := base hg ha hb
  obtain ⟨p, hp, rfl⟩ := conc_sl ha
  obtain ⟨w', q1, q2⟩ := h6 hg hp r1
  exact ⟨_, w', rfl, q2, r2 w' _ _ _ rfl q1⟩
 ·rename_i id o1 o2
  refine ⟨_, s, h4, rfl, fun {w0 φ w a b} hg ha hb => ?_⟩
  obtain ⟨arr, r1, r2⟩ := base hg ha hb
  have hl0 : arr.toList = [] := by
   cases hdl
   have h0 := hll m hm (by simp)
   simp only [Nat.min_zero, Nat.zero_mul] at h0
   have := concL_length r1
   rw [h0] at this
   exact List.length_eq_zero_iff.1 this
  have hsl : ∃ q n c, a = .slice (some q) n c := by
   simp only [conc, Option.map_eq_some_iff] at ha
   obtain ⟨p, _, rfl⟩ := ha
   split
   ·exact ⟨_, _, _, rfl⟩
   ·exact ⟨_, _, _, rfl⟩
  obtain ⟨q, n, c, rfl⟩ := hsl
  exact ⟨_, w, rfl, hg, r2 w _ _ _ rfl (by rw [hl0]; rfl)⟩
 ·rename_i id o1 o2
  refine ⟨_, s, h4, rfl, fun {w0 φ w a b} hg ha hb => ?_⟩
  obtain ⟨arr, r1, r2⟩ := base hg ha hb
  have hl0 : arr.toList = [] := by
   cases hdl
   have h0 := hll m hm (by simp)
   simp only [Nat.min_zero, Nat.zero_mul] at h0
   have := concL_length r1
   rw [h0] at this
   exact List.length_eq_zero_iff.1 this
  have hsl : ∃ q n c, a = .slice (some q) n c := by
   simp only [conc, Option.map_eq_some_iff] at ha
   obtain ⟨p, _, rfl⟩ := ha
   exact ⟨_, _, _, rfl⟩
  obtain ⟨q, n, c, rfl⟩ := hsl
  exact ⟨_, w, rfl, hg, r2 w _ _ _ rfl (by rw [hl0]; rfl)⟩
 ·refine ⟨_, s, h4, rfl, fun {w0 φ w a b} hg ha hb => ?_⟩
  obtain ⟨arr, r1, r2⟩ := base hg ha hb
  simp only [conc, Option.some.injEq] at ha
  exact ⟨_, w, rfl, hg, r2 w _ _ _ ha.symm rfl⟩
 ·cases h4
theorem litU_some {v : Option AV} {n : Int} (h : litU v = some n) : v = some (.int .u8 (.lit n)) := by
 unfold litU at h
 split at h
 ·cases h; rfl
 ·cases h
theorem eqU_some {a b : Option Int} (h : eqU a b = true) : ∃ n, a = some n ∧ b = some n := by
 unfold eqU at h
 split at h
 ·split at h
  ·rw [beqF_eq, decide_eq_true_eq] at h
   exact ⟨_, rfl, by rw [h]⟩
  ·cases h
 ·cases h
theorem isNilT_nil {c : Tr AV} (h : isNilT c = true) : c = .nil := by
 cases c with
 | nil => rfl
 | node v l r => cases h
theorem copy_sound {T : TypeId} {s : St} {d x : AV} {Ts : Array TypeId} {κ : AV → St → R} (hT : Ts[0]? = some T) (hD : copyA P T s d x κ ∈ D) : ∃ v s', κ v s' ∈ D ∧ s'.pc = s.pc ∧ ∀ {w0 φ w a b}, Gm P ρ w0 φ s w → conc φ ρ d = some a → conc φ ρ x = some b → ∃ y w', conc φ ρ v = some y ∧ Gm P ρ w0 φ s' w' ∧ ∀ R', (Builtin.copy_ Ts R' #[a, b]).run P w = .ok y w' := by
 obtain ⟨t, ht, h1⟩ := optK_inv hD
 split at h1
 ·rename_i e sz
  obtain ⟨hu, hs⟩ := ixOf_sli ht
  obtain ⟨m, hm, h2⟩ := lenOfK_inv h1
  obtain ⟨dl, hdl, h3⟩ := lenOfK_inv h2
  rw [forceN_eq, minF_eq] at h3
  rcases brec_cases h3 with ⟨hz, h4⟩ | ⟨_, h4⟩
  ·rw [natBeq] at hz
   have hz : sz = 1 := of_decide_eq_true hz
   subst hz
   unfold same0 at h4
   split at h4
   ·rename_i j o dlen dcap
    split at h4
    ·rename_i i q xlen xcap
     obtain ⟨mm, c, ee, T1, r1, hj, h5⟩ := objK_inv h4
     obtain ⟨mm', c', ee', T2, r2, hi, h6⟩ := objK_inv h5
     rcases brec_cases h6 with ⟨hb, h7⟩ | ⟨_, h7⟩
     ·rcases brec_cases h7 with ⟨hb2, h8⟩ | ⟨_, h8⟩
      ·simp only [Bool.and_eq_true] at hb hb2
       obtain ⟨hc1, hc2, hc3⟩ := hb
       obtain ⟨n, e1, e2⟩ := eqU_some hc3
       have e1 := litU_some e1
       have e2 := litU_some e2
       have hc1 := isNilT_nil hc1
       have hc2 := isNilT_nil hc2
       subst e1; subst e2; subst hc1; subst hc2
       rw [natBle, natBle, decide_eq_true_eq, decide_eq_true_eq] at hb2
       obtain ⟨hle1, hle2⟩ := hb2
       refine ⟨_, s, h8, rfl, fun {w0 φ w a b} hg ha hb' => ?_⟩
       obtain ⟨l, hol, hld, hget⟩ := ldN_ok (c := Tr.nil) (d := some (.int .u8 (.lit n))) (min m dl * 1) q fun i hi => ⟨_, by unfold celA; rw [Tr.get_nil]⟩
       have hel : ∀ i, i < min m dl * 1 → l[i]? = some (AV.int .u8 (.lit n)) := fun i hi => by
        rw [hget i hi]; unfold celA; rw [Tr.get_nil]
       have hone : allOne l = true := allOne_of fun v hv => by
        obtain ⟨i, hi, rfl⟩ := List.mem_iff_getElem.1 hv
        have := hel i (by omega)
        rw [List.getElem?_eq_getElem hi] at this
        rw [Option.some.inj this]; rfl
       have hmem : copyG 1 (min m dl) s (.sl j o dlen dcap) (.sl i q xlen xcap) R.done ∈ Dn.mk ρ (.int .i64 (.lit (.ofNat (min m dl)))) ⟨s.hp.set j (.cells mm (setL .nil o l) (some (.int .u8 (.lit n))) T1 r1), s.nx, s.pc⟩ := by
        show objK s.hp i (fun m' c d _ _ => Bool.rec (motive := fun _ => R) (.fail 124) (ldN c d q (Nat.mul (min m dl) 1) _) (Nat.ble (Nat.add q (Nat.mul (min m dl) 1)) m')) ∈ (_ : Dn)
        unfold objK
        rw [hi]
        show Bool.rec (motive := fun _ => R) (.fail 124) (ldN .nil (some (.int .u8 (.lit n))) q (min m dl * 1) _) (Nat.ble (q + min m dl * 1) mm') ∈ (_ : Dn)
        rw [natBle, decide_eq_true (by have : q + min m dl ≤ mm' := hle2; omega)]
        show ldN _ _ q (min m dl * 1) _ ∈ (_ : Dn)
        rw [hld]
        show objK s.hp j (stP s j o l _) ∈ (_ : Dn)
        unfold objK
        rw [hj]
        show Bool.rec (motive := fun _ => R) (.fail 101) (Bool.rec (motive := fun _ => R) (.fail 102) _ (Nat.ble (Nat.add o (lenL l)) mm)) (allOne l) ∈ (_ : Dn)
        rw [hone, lenL_eq, hol]
        show Bool.rec (motive := fun _ => R) (.fail 102) _ (Nat.ble (o + min m dl * 1) mm) ∈ (_ : Dn)
        rw [natBle, decide_eq_true (by have : o + min m dl ≤ mm := hle1; omega)]
        cases s
        exact ⟨rfl, rfl⟩
       obtain ⟨v0, s0, h12, hpc0, h13⟩ := copyG_sound (D := Dn.mk ρ (.int .i64 (.lit (.ofNat (min m dl)))) ⟨s.hp.set j (.cells mm (setL .nil o l) (some (.int .u8 (.lit n))) T1 r1), s.nx, s.pc⟩) (ρ := ρ) hT hu hs hm hdl hmem
       obtain ⟨rfl, rfl⟩ := h12
       obtain ⟨y, w', q1, q2, q3⟩ := h13 hg ha hb'
       refine ⟨y, w', q1, ?_, q3⟩
       have q4 := q2.swap (id := j) (n := mm) (c := setL .nil o l) (d := some (.int .u8 (.lit n))) (T := T1) (r := r1) (c' := .nil) (d' := some (.int .u8 (.lit n))) (by simp [Tr.get_set]) fun i hi => by
        unfold celA
        rw [setL_get, Tr.get_nil]
        by_cases h : o ≤ i ∧ i < o + l.length
        ·rw [if_pos h, hel (i - o) (by omega)]
        ·rw [if_neg h]
       simpa [Tr.set_set, Tr.set_same hj] using q4
      ·exact copyG_sound hT hu hs hm hdl h8
     ·exact copyG_sound hT hu hs hm hdl h7
    ·exact copyG_sound hT hu hs hm hdl h4
   ·exact copyG_sound hT hu hs hm hdl h4
  ·exact copyG_sound hT hu hs hm hdl h4
 ·cases h1
theorem growBy_le (n : Nat) : ∀ (k c : Nat), c ≤ 2 * n + 1000 → (c < n → c + (c + 768) / 4 ≤ 2 * n + 1000) → Builtin.growBy n k c ≤ 2 * n + 1000
 | 0, c, h, _ => h
 | k + 1, c, h, h2 => by
  rw [Builtin.growBy]
  split
  ·exact h
  ·exact growBy_le n k _ (h2 (by omega)) (fun _ => by omega)
theorem nextcap_le {need cap : Nat} (h : cap < need) : Builtin.nextslicecap need cap ≤ 2 * need + 1000 := by
 unfold Builtin.nextslicecap
 split
 ·omega
 ·split
  ·omega
  ·exact growBy_le need 4 cap (by omega) (fun _ => by omega)
theorem zeroCells_size (z : Array Value) (n : Nat) : (Builtin.zeroCells z n).size = n * z.size := by simp [Builtin.zeroCells]
theorem cellsK_cases (v : AV) : (∃ l, (∀ {α : Type} (no : α) (κ : List AV → α), cellsK no v κ = κ l)) ∨ (∀ {α : Type} (no : α) (κ : List AV → α), cellsK no v κ = no) := by
 cases v with
 | agg l => exact .inl ⟨l, fun _ _ => rfl⟩
 | tup l => exact .inr fun _ _ => rfl
 | opq v => exact .inr fun _ _ => rfl
 | raw v =>
  cases hv : rawOk v with
  | false => exact .inr fun no κ => by simp only [cellsK, hv]
  | true => exact .inl ⟨[.raw v], fun no κ => by simp only [cellsK, hv]⟩
 | int k e => exact .inl ⟨[.int k e], fun _ _ => rfl⟩
 | bool b => exact .inl ⟨[.bool b], fun _ _ => rfl⟩
 | ptr i o => exact .inl ⟨[.ptr i o], fun _ _ => rfl⟩
 | sl i o n c => exact .inl ⟨[.sl i o n c], fun _ _ => rfl⟩
 | emp i o n => exact .inl ⟨[.emp i o n], fun _ _ => rfl⟩
 | em0 i o n => exact .inl ⟨[.em0 i o n], fun _ _ => rfl⟩
 | map i => exact .inl ⟨[.map i], fun _ _ => rfl⟩
 | fn f a b => exact .inl ⟨[.fn f a b], fun _ _ => rfl⟩
 | iface t v => exact .inl ⟨[.iface t v], fun _ _ => rfl⟩
 | osl p k c => exact .inl ⟨[.osl p k c], fun _ _ => rfl⟩
 | ssl i a b c d => exact .inl ⟨[.ssl i a b c d], fun _ _ => rfl⟩
 | fsl a b c d => exact .inl ⟨[.fsl a b c d], fun _ _ => rfl⟩
 | dfr f a r => exact .inr fun _ _ => rfl
theorem growOk_spec {e sz need : Nat} (h : growOk P e sz need = true) : ∃ i z, P.info? e = some i ∧ zeroA P e = some z ∧ i.bytes ≠ 0 ∧ 0 < sz ∧ (2 * need + 1000) * i.bytes ≤ 281474976710656 ∧ ∀ {φ : List Pl} {ρ : Nat → Int} {x : Value}, conc φ ρ z = some x → x.cells.size = sz := by
 unfold growOk at h
 split at h
 ·rename_i by_ hb
  simp only [bytesA, Option.map_eq_some_iff] at hb
  obtain ⟨i, hi, rfl⟩ := hb
  split at h
  ·rename_i z hz
   rcases cellsK_cases z with ⟨l, hl⟩ | hno
   ·rw [hl] at h
    simp only [Bool.and_eq_true, natBeq, natBlt, natBle, lenL_eq, decide_eq_true_eq, Bool.not_eq_true', decide_eq_false_iff_not] at h
    refine ⟨i, z, hi, hz, h.2.1, h.2.2.1, h.2.2.2, fun {φ ρ x} hx => ?_⟩
    obtain ⟨l', h1, h2⟩ := cellsK_inv (D := ⟨fun _ => 0, undefA, s0 [] [] []⟩) (n := 0) (v := z) (κ := fun l' => Bool.rec (motive := fun _ => R) (.fail 0) (.done undefA (s0 [] [] [])) (Nat.beq l'.length sz)) (by rw [hl, h.1, natBeq]; simp only [decide_true]; exact ⟨rfl, rfl⟩)
    obtain ⟨h3, _⟩ := brec_inv h1
    rw [natBeq] at h3
    rw [← Array.length_toList, concL_length (h2 hx), of_decide_eq_true h3]
   ·rw [hno] at h; cases h
  ·cases h
 ·cases h
theorem run_choose_cap {w : World} {need old e : Nat} (hn : need < 9223372036854775808) : ∃ c, need ≤ c ∧ (choose (.appendCap need old e)).run P w = .ok c { w with drawn := w.drawn + 1 } := by
 refine ⟨need + (w.tape w.drawn (.appendCap need old e)) % (2 ^ 63 - need), by omega, ?_⟩
 simp [choose, Sem.run, Question.forced, Question.cut]
theorem append_new {w : World} {Ts : Array TypeId} {T e sz sLen n sCap : Nat} {p : Option Addr} {y : Value} {need : Nat} (hT : Ts[0]? = some T) (hn1 : notIntT P (Ts[1]?) = true) (hu : P.underlying T = some (.slice e)) (hs : sizeA P e = some sz) (hlen : (Builtin.lenOf y).run P w = .ok n w)
  (hneed : need = sLen + n) (hcap : sCap < need) (hok : growOk P e sz need = true)
  (old new : Array Value) (ho : ∀ w' : World, w'.heap = w.heap → (Builtin.firstCells sz sLen (.slice p sLen sCap)).run P w' = .ok old w') (hnw : ∀ w' : World, w'.heap = w.heap → (Builtin.firstCells sz n y).run P w' = .ok new w') (hos : old.size = sLen * sz) (hns : new.size = n * sz) :
  ∃ c rest, need ≤ c ∧ (old ++ new ++ rest : Array Value).size = c * sz ∧ ∀ R', (Builtin.append_ Ts R' #[.slice p sLen sCap, y]).run P w = .ok (.slice (some ⟨w.heap.size, 0, none⟩) need c) { w with drawn := w.drawn + 1, heap := w.heap.push (.cells (old ++ new ++ rest) e) } := by
 obtain ⟨i, z, hi, hz, hb0, hsz0, hmax, hcb⟩ := growOk_spec hok
 have hneed63 : need < 9223372036854775808 := by
  have : (2 * need + 1000) * 1 ≤ (2 * need + 1000) * i.bytes := Nat.mul_le_mul_left _ (by omega)
  omega
 obtain ⟨c, hc, hrun⟩ := run_choose_cap (P := P) (w := w) (need := need) (old := sCap) (e := e) hneed63
 obtain ⟨zv, hzr, hzc⟩ := zero_conc hz (w := { w with drawn := w.drawn + 1 }) (φ := []) (ρ := fun _ => 0)
 have hzs := hcb hzc
 refine ⟨c, Builtin.zeroCells zv.cells (c - need), hc, ?_, fun R' => ?_⟩
 ·rw [Array.size_append, Array.size_append, zeroCells_size, hos, hns, hzs, ← Nat.add_mul, ← Nat.add_mul, ← hneed]
  congr 1; omega
 ·obtain ⟨T1, hT1, hT2⟩ : ∃ T1, Ts[1]? = some T1 ∧ ∃ d, P.underlying T1 = some d ∧ (∀ k, d ≠ .int k) := by
   unfold notIntT at hn1
   split at hn1
   ·rename_i T1 h1
    split at hn1
    ·cases hn1
    ·rename_i d h2 h3
     exact ⟨_, h1, d, h3, h2⟩
    ·cases hn1
   ·cases hn1
  obtain ⟨d, hd, hdi⟩ := hT2
  have hnc := nextcap_le (need := need) (cap := sCap) hcap
  have hbig : ¬ (Builtin.nextslicecap need sCap * i.bytes > 2 ^ 48) := by
   have := Nat.mul_le_mul_right i.bytes hnc
   omega
  unfold Builtin.append_
  simp only [hT, hT1, List.getElem?_toArray, List.getElem?_cons_zero, List.getElem?_cons_succ, Sem.run_bind, run_underlying hu, Result.andThen_ok, run_size hs, run_underlying hd, Sem.run_pure]
  have hz0 : (match d with | .int _ => true | _ => false) = false := by
   cases d <;> first | rfl | exact absurd rfl (hdi _)
  simp only [hz0, Bool.false_eq_true, if_false, Sem.run_bind, hlen, Result.andThen_ok]
  subst hneed
  have h63 : ¬ (((sLen + n : Nat) : Int) > IntKind.i64.max ∧ (False ∨ i.bytes = 0)) := by
   rintro ⟨_, h | h⟩
   ·exact h
   ·exact hb0 h
  simp only [show ¬ (sLen + n ≤ sCap) by omega, if_false, Sem.run_bind, run_ti hi, Result.andThen_ok, h63, hbig, Bool.not_false, if_true, hrun, run_askRoom, ho { w with drawn := w.drawn + 1 } rfl, hnw { w with drawn := w.drawn + 1 } rfl, hzr, run_newRow, Sem.run_pure]
theorem append_in {w w' : World} {Ts : Array TypeId} {T e sz sLen n sCap : Nat} {p : Option Addr} {y : Value} (hT : Ts[0]? = some T) (hn1 : notIntT P (Ts[1]?) = true) (hu : P.underlying T = some (.slice e)) (hs : sizeA P e = some sz) (hlen : (Builtin.lenOf y).run P w = .ok n w)
  (hcap : sLen + n ≤ sCap) (new : Array Value) (hnw : (Builtin.firstCells sz n y).run P w = .ok new w) (hst : (match p with | some a => storeCells (a.add (sLen * sz)) new.toList | none => pure ()).run P w = .ok () w') :
  ∀ R', (Builtin.append_ Ts R' #[.slice p sLen sCap, y]).run P w = .ok (.slice p (sLen + n) sCap) w' := by
 intro R'
 obtain ⟨T1, hT1, hT2⟩ : ∃ T1, Ts[1]? = some T1 ∧ ∃ d, P.underlying T1 = some d ∧ (∀ k, d ≠ .int k) := by
  unfold notIntT at hn1
  split at hn1
  ·rename_i T1 h1
   split at hn1
   ·cases hn1
   ·rename_i d h2 h3
    exact ⟨_, h1, d, h3, h2⟩
   ·cases hn1
  ·cases hn1
 obtain ⟨d, hd, hdi⟩ := hT2
 unfold Builtin.append_
 simp only [hT, hT1, List.getElem?_toArray, List.getElem?_cons_zero, List.getElem?_cons_succ, Sem.run_bind, run_underlying hu, Result.andThen_ok, run_size hs, run_underlying hd, Sem.run_pure]
 have hz0 : (match d with | .int _ => true | _ => false) = false := by
  cases d <;> first | rfl | exact absurd rfl (hdi _)
 simp only [hz0, Bool.false_eq_true, if_false, Sem.run_bind, hlen, Result.andThen_ok, hcap, if_true, Bool.not_false, hnw]
 cases p with
 | none =>
  simp only [Sem.run_pure, Result.ok.injEq, true_and] at hst
  subst hst
  rfl
 | some q =>
  simp only at hst
  simp only [Sem.run_bind, hst, Result.andThen_ok, Sem.run_pure]
theorem grow_new {e sz need sLen n : Nat} {s : St} {κ : AV → St → R} {old new : List AV} (hD : growK P s e sz need old new κ ∈ D) (hs : sizeA P e = some sz) (hneed : need = sLen + n) : growOk P e sz need = true ∧ ∃ v s', κ v s' ∈ D ∧ s'.pc = s.pc ∧
  (∀ {w0 : Base} {φ : List Pl} {w : World} {Ts T sCap p y}, Gm P ρ w0 φ s w → Ts[0]? = some T → notIntT P (Ts[1]?) = true → P.underlying T = some (.slice e) → (Builtin.lenOf y).run P w = .ok n w → sCap < need →
   ∀ (oa na : Array Value), (∀ w' : World, w'.heap = w.heap → (Builtin.firstCells sz sLen (.slice p sLen sCap)).run P w' = .ok oa w') → (∀ w' : World, w'.heap = w.heap → (Builtin.firstCells sz n y).run P w' = .ok na w') →
   concL φ ρ old = some oa.toList → concL φ ρ new = some na.toList → old.length = sLen * sz → new.length = n * sz →
   ∃ φ' z w', φ <+: φ' ∧ conc φ' ρ v = some z ∧ Gm P ρ w0 φ' s' w' ∧ ∀ R', (Builtin.append_ Ts R' #[.slice p sLen sCap, y]).run P w = .ok z w') ∧
  (∀ {w0 : Base} {φ : List Pl} {w : World} {pl : Pl} {q arr fz} {xs : List Value}, Gm P ρ w0 φ s w → concL φ ρ (old ++ new) = some xs → pl.es = sz → w0.w0.heap.size ≤ pl.blk → pl.blk < w.heap.size → (∀ i o' q, s.hp.get i = some o' → live o' = true → φ[i]? = some q → q.blk ≠ pl.blk) →
   w.heap[pl.blk]? = some (.cells arr e fz) → arr.size = pl.sz → pl.sh + q + (old ++ new).length ≤ pl.sz → (∀ i, i < pl.sz → ¬ (fz.1 ≤ i ∧ i < fz.2)) → (∀ i, i < (old ++ new).length → arr[pl.sh + q + i]? = xs[i]?) → (∀ x ∈ w0.fr, pl.blk ≠ x.1) →
   ∃ φ', φ <+: φ' ∧ conc φ' ρ v = some (.slice (some ⟨pl.blk, pl.sh + q, none⟩) need (pl.room q)) ∧ Gm P ρ w0 φ' s' w) := by
 obtain ⟨hok, h1⟩ := brec_inv hD
 obtain ⟨s', h2, hpc, h3⟩ := newL_sound (P := P) (ρ := ρ) h1
 obtain ⟨i, z, hi, hz, hb0, hsz0, hmax, hcb⟩ := growOk_spec hok
 refine ⟨hok, _, s', h2, hpc, fun {w0 φ w Ts T sCap p y} hg hT hn1 hu hlen hcap oa na ho hnw hco hcn hol hnl => ?_, fun {w0 φ w pl q arr fz xs} hg hx hes hlo hhi hfree hb hsz hle hfr hc hfo => ?_⟩
 ·have hoa : oa.size = sLen * sz := by rw [← Array.length_toList, concL_length hco, hol]
  have hna : na.size = n * sz := by rw [← Array.length_toList, concL_length hcn, hnl]
  obtain ⟨c, rest, q1, q2, q3⟩ := append_new hT hn1 hu hs hlen hneed hcap hok oa na ho hnw hoa hna
  let w1 : World := { w with drawn := w.drawn + 1 }
  have hg1 : Gm P ρ w0 φ s w1 := hg.world (hg.kp.drew) (Nat.le_refl _) (fun _ _ _ _ _ _ => rfl) (fun _ _ _ _ => rfl)
  have hx : concL φ ρ (old ++ new) = some (oa.toList ++ na.toList) := concL_append.2 ⟨_, _, hco, hcn, rfl⟩
  have hm := h3 (p := ⟨w.heap.size, 0, c * sz, sz⟩) (arr := oa ++ na ++ rest) (fz := (0, 0)) (hg1.push (.cells (oa ++ na ++ rest) e)) hx hg.kp.size (by simp [w1]) (fun i o' q hi hl hq he => by have := (hg.lo i q hq).2; simp only at he; omega)
   (by simp [w1]) q2 (by simp only [Nat.zero_add, List.length_append, hol, hnl, ← Nat.add_mul, ← hneed]; exact Nat.mul_le_mul_right _ q1) (fun h => by cases h) (fun _ => ⟨hs, hsz0⟩) (fun i _ h => by simp at h) (fun i hi => by
    simp only [Nat.zero_add]
    rw [← Array.getElem?_toList, Array.toList_append, Array.toList_append, List.getElem?_append_left (by rw [← concL_length hx] at hi; exact hi)]) (fun x hx => Nat.ne_of_gt (hg.fr x hx).1)
  have hnx : (φ ++ [(⟨w.heap.size, 0, c * sz, sz⟩ : Pl)])[s.nx]? = some ⟨w.heap.size, 0, c * sz, sz⟩ := by rw [← hg.len]; simp
  refine ⟨_, _, _, pre_one _ _, ?_, hm, q3⟩
  simp only [conc, hnx, Option.map_some, Option.getD_none, Pl.room, Nat.add_zero, Nat.sub_zero, Nat.zero_add, show nat_lit 0 = 0 from rfl]
  rw [Nat.mul_div_cancel _ hsz0]
 ·have hm := h3 (p := ⟨pl.blk, pl.sh + q, pl.sz, pl.es⟩) hg hx hlo hhi hfree hb hsz hle (fun h => by cases h) (fun _ => ⟨by rw [hes]; exact hs, by rw [hes]; exact hsz0⟩) hfr hc hfo
  refine ⟨_, pre_one _ _, ?_, hm⟩
  rw [show (AV.sl s.nx (nat_lit 0) need none) = AV.sl s.nx 0 need none from rfl]
  simp only [conc]
  rw [show (φ ++ [(⟨pl.blk, pl.sh + q, pl.sz, pl.es⟩ : Pl)])[s.nx]? = some ⟨pl.blk, pl.sh + q, pl.sz, pl.es⟩ by rw [← hg.len]; simp]
  simp [Pl.room]
end
end Go.Proofs.YtooebogidjejoaaGreat
namespace Go.Proofs.YtooebogidjejoaaGreat
open Go
section
variable {P : Program} {ρ : Nat → Int} {w0 : Base} {D : Dn}
theorem one_all {φ : List Pl} {l : List AV} (h1 : allOne l = true) {xs : List Value} (hx : concL φ ρ l = some xs) : ∀ v ∈ xs, v.oneCell' = true := by
 intro v hv
 have hxl := concL_length hx
 obtain ⟨i, hi, rfl⟩ := List.mem_iff_getElem.1 hv
 have hi' : i < l.length := by omega
 obtain ⟨x, e1, e2⟩ := concL_get hx (List.getElem?_eq_getElem hi')
 rw [List.getElem?_eq_getElem hi] at e2
 cases e2
 exact one_conc (allOne_spec h1 _ (List.getElem_mem hi')) e1
theorem newL_one {s : St} {l : List AV} {T : TypeId} {row : Bool} {κ : Nat → St → R} (hD : newL s l T row κ ∈ D) : allOne l = true := (brec_inv hD).1
theorem growK_one {e sz need : Nat} {s : St} {κ : AV → St → R} {old new : List AV} (hD : growK P s e sz need old new κ ∈ D) : allOne new = true := by
 obtain ⟨_, h1⟩ := brec_inv hD
 have h := newL_one h1
 clear hD h1
 induction old with
 | nil => exact h
 | cons v l ih =>
  have h : Bool.rec (motive := fun _ => Bool) false (allOne (l ++ new)) (oneB v) = true := h
  cases hv : oneB v with
  | false => rw [hv] at h; cases h
  | true => rw [hv] at h; exact ih h
theorem store_beyond {φ : List Pl} {s : St} {w : World} (hg : Gm P ρ w0 φ s w) {id k : Nat} {c : Tr AV} {d : Option AV} {T : TypeId} {r : Bool} (hid : s.hp.get id = some (.cells k c d T r)) {p : Pl} (hp : φ[id]? = some p) {o : Nat} {xs : List Value} (h1 : ∀ v ∈ xs, v.oneCell' = true) (hle : p.sh + o + xs.length ≤ p.sz) :
  ∃ w' arr arr' fz, w.heap[p.blk]? = some (.cells arr T fz) ∧ (storeCells ⟨p.blk, p.sh + o, none⟩ xs).run P w = .ok () w' ∧ Gm P ρ w0 φ (killS s id) w' ∧ w'.heap[p.blk]? = some (.cells arr' T fz) ∧ arr'.size = p.sz ∧ (∀ i, i < p.sz → ¬ (fz.1 ≤ i ∧ i < fz.2)) ∧
   (∀ j, arr'[j]? = if p.sh + o ≤ j ∧ j < p.sh + o + xs.length then xs[j - (p.sh + o)]? else arr[j]?) ∧ p.blk < w'.heap.size := by
 obtain ⟨p', arr, fz, hp', hc⟩ := hg.hp.obj _ _ hid
 rw [hp] at hp'; cases hp'
 have hsz := hc.size
 obtain ⟨w', arr', r1, r2, r3, r4, r5, r6⟩ := storeCells_run (P := P) (g := p.blk) (o := p.sh + o) xs 0 w arr hc.blk (by omega) (by rw [hsz]; exact hc.fr) h1
 have hlo := hg.lo id p hp
 refine ⟨w', arr, arr', fz, hc.blk, r1, (hg.kill hid).world ?_ (by rw [r6]; exact Nat.le_refl _) (fun i o' q hi hl hq => ?_) (fun x hx hlt hne => r5.block x.1 hlt (by simp only [List.mem_singleton]; exact fun e => hne id p hp e.symm)), r2, by rw [r3, hsz], hc.fr, fun j => by simpa using r4 j, by rw [r6]; exact hlo.2⟩
 ·refine hg.kp.trans' r5 (fun _ h => .inl h) fun i hi => .inr ?_
  simp only [List.mem_singleton] at hi
  subst hi
  exact hlo.1
 ·refine r5.block q.blk (hg.lo i q hq).2 ?_
  simp only [List.mem_singleton]
  exact hg.kill_free hid rfl hp i o' q hi hl hq
theorem first_sl {h : Tr AObj} {s n id off len : Nat} {cap : Option Nat} {κ : List AV → R} (hD : firstK h s n (.sl id off len cap) κ ∈ D) {m : Nat} {c : Tr AV} {d : Option AV} {T : TypeId} {r : Bool} (hid : h.get id = some (.cells m c d T r)) :
  ∃ l, κ l ∈ D ∧ l.length = n * s ∧ (∀ i, i < n * s → celA c d (off + i) = l[i]?) ∧ ∀ {φ w y}, Hp P φ ρ h w → conc φ ρ (.sl id off len cap) = some y → ∃ arr, (Builtin.firstCells s n y).run P w = .ok arr w ∧ concL φ ρ l = some arr.toList := by
 have hD : objK h id (fun m c d _ _ => Bool.rec (motive := fun _ => R) (.fail 124) (ldN c d off (Nat.mul n s) κ) (Nat.ble (Nat.add off (Nat.mul n s)) m)) ∈ D := hD
 obtain ⟨m', c', d', T', r', hg, h1⟩ := objK_inv hD
 rw [hid] at hg
 cases hg
 obtain ⟨hle, h2⟩ := brec_inv h1
 rw [natBle] at hle
 have hle : off + n * s ≤ m := of_decide_eq_true hle
 obtain ⟨l, hl, h3, hcl⟩ := ldN_inv h2
 have hl : l.length = n * s := hl
 refine ⟨l, h3, hl, fun i hi => hcl i hi, fun {φ w y} hp hy => ?_⟩
 obtain ⟨p, arr, fz, hpl, hc⟩ := hp.obj _ _ hid
 obtain ⟨p', hp', rfl⟩ := conc_sl hy
 rw [hpl] at hp'; cases hp'
 obtain ⟨xs, hxs, hcx⟩ := cells_row hc l off (by rw [hl]; exact hle) (fun i hi => hcl i (by rw [hl] at hi; exact hi))
 have hr := run_loadCells_list (P := P) (w := w) ⟨p.blk, p.sh + off, none⟩ xs hcx
 have hm : xs.length = n * s := by rw [concL_length hxs, hl]
 rw [hm] at hr
 exact ⟨xs.toArray, hr, by simpa using hxs⟩
theorem first_any {h : Tr AObj} {s n : Nat} {x : AV} {l : List AV} {φ : List Pl} {w : World} {y : Value} (hf : ∀ {φ w y}, Hp P φ ρ h w → conc φ ρ x = some y → ∃ arr, (Builtin.firstCells s n y).run P w = .ok arr w ∧ concL φ ρ l = some arr.toList) (hp : Hp P φ ρ h w) (hy : conc φ ρ x = some y) :
  ∃ arr : Array Value, concL φ ρ l = some arr.toList ∧ ∀ w' : World, w'.heap = w.heap → (Builtin.firstCells s n y).run P w' = .ok arr w' := by
 obtain ⟨arr, r1, r2⟩ := hf hp hy
 refine ⟨arr, r2, fun w' hw' => ?_⟩
 have hp' : Hp P φ ρ h w' := ⟨fun id o hid => (hp.obj id o hid).world fun p _ _ => by rw [hw'], hp.sep⟩
 obtain ⟨arr', q1, q2⟩ := hf hp' hy
 rw [r2] at q2
 have : arr = arr' := Array.toList_inj.1 (Option.some.inj q2)
 rw [this]; exact q1
theorem first_zero {s c : Nat} {p : Option Addr} {w : World} : (Builtin.firstCells s 0 (.slice p 0 c)).run P w = .ok #[] w := by
 cases p <;> simp [Builtin.firstCells, loadCells, loadCellsFrom]
def AppO (P : Program) (ρ : Nat → Int) (w0 : Base) (φ : List Pl) (w : World) (s' : St) (Ts : Array TypeId) (a b : Value) (v : AV) : Prop :=
 ∃ φ' z w', φ <+: φ' ∧ conc φ' ρ v = some z ∧ Gm P ρ w0 φ' s' w' ∧ ∀ R', (Builtin.append_ Ts R' #[a, b]).run P w = .ok z w'
theorem room_le {p : Pl} {off m sz k : Nat} (hes : p.es = sz) (hsz : 0 < sz) (h1 : off + m * sz ≤ k) (h2 : p.sh + k ≤ p.sz) : m ≤ p.room off := by
 unfold Pl.room
 rw [hes, Nat.le_div_iff_mul_le hsz]
 omega
theorem le_room {p : Pl} {off m sz : Nat} (hes : p.es = sz) (hsz : 0 < sz) (h : m ≤ p.room off) (h0 : p.sh + off ≤ p.sz) : p.sh + off + m * sz ≤ p.sz := by
 unfold Pl.room at h
 rw [hes, Nat.le_div_iff_mul_le hsz] at h
 omega
theorem AppO.swap {φ : List Pl} {s : St} {w : World} {Ts : Array TypeId} {a b : Value} {v : AV} {id n : Nat} {c c' : Tr AV} {d d' : Option AV} {T : TypeId} {r : Bool} (ho : AppO P ρ w0 φ w s Ts a b v) (hid : s.hp.get id = some (.cells n c d T r)) (h : ∀ i, i < n → celA c' d' i = celA c d i) : AppO P ρ w0 φ w ⟨s.hp.set id (.cells n c' d' T r), s.nx, s.pc⟩ Ts a b v := by
 obtain ⟨φ', z, w', h1, h2, h3, h4⟩ := ho
 exact ⟨φ', z, w', h1, h2, h3.swap hid h, h4⟩
theorem app_regrow {Ts : Array TypeId} {T e sz n id off len : Nat} {s : St} {y : AV} {l : List AV} {c : Tr AV} {d : Option AV} {κ : AV → St → R} (hT : Ts[0]? = some T) (hn1 : notIntT P (Ts[1]?) = true) (hu : P.underlying T = some (.slice e)) (hs : sizeA P e = some sz) (hn : lenV y = some n)
  (hf : ∀ {φ w z}, Hp P φ ρ s.hp w → conc φ ρ y = some z → ∃ arr, (Builtin.firstCells sz n z).run P w = .ok arr w ∧ concL φ ρ l = some arr.toList) (hll : l.length = n * sz) (hid : s.hp.get id = some (.cells (off + len * sz) c d e true))
  (h9 : firstK s.hp sz len (.sl id off len none) (fun old => growK P (killS s id) e sz (len + n) old l κ) ∈ D) : ∃ v s', κ v s' ∈ D ∧ s'.pc = s.pc ∧ ∀ {w0 φ w a b}, Gm P ρ w0 φ s w → conc φ ρ (.sl id off len none) = some a → conc φ ρ y = some b → AppO P ρ w0 φ w s' Ts a b v := by
 obtain ⟨old, h10, hol, hcl, hof⟩ := first_sl (P := P) (ρ := ρ) h9 hid
 have h1n := growK_one h10
 obtain ⟨hok, v, s', h11, hpc, hnew, hin⟩ := grow_new (P := P) (ρ := ρ) (sLen := len) (n := n) h10 hs rfl
 obtain ⟨i, z, hi, hz, hb0', hsz0, hmax, hcb⟩ := growOk_spec hok
 refine ⟨v, s', h11, hpc, fun {w0 φ w a b} hg ha hb' => ?_⟩
 obtain ⟨na, q1, q2⟩ := first_any hf hg.hp hb'
 obtain ⟨oa, q3, q4⟩ := first_any hof hg.hp ha
 obtain ⟨p, hp, rfl⟩ := conc_sl ha
 obtain ⟨p', arr0, fz0, hp', hc⟩ := hg.hp.obj _ _ hid
 rw [hp] at hp'; cases hp'
 have hes : p.es = sz := by
  have := (hc.es rfl).1
  rw [hs] at this
  exact (Option.some.inj this).symm
 have hcle := hc.le
 have hoa : oa.size = len * sz := by rw [← Array.length_toList, concL_length q3, hol]
 have hna : na.size = n * sz := by rw [← Array.length_toList, concL_length q1, hll]
 rcases Nat.lt_or_ge (p.room off) (len + n) with hroom | hroom
 ·obtain ⟨φ', zz, w', r1, r2, r3, r4⟩ := hnew (hg.kill hid) hT hn1 hu (lenOf_run hn hb') hroom oa na q4 q2 q3 q1 hol hll
  exact ⟨φ', zz, w', r1, r2, r3, r4⟩
 ·have hfit := le_room hes hsz0 hroom (by omega)
  rw [Nat.add_mul] at hfit
  obtain ⟨w', arr, arr', fz, b1, b2, b3, b4, b5, b6, b7, b8⟩ := store_beyond hg hid hp (o := off + len * sz) (xs := na.toList) (one_all h1n q1) (by rw [Array.length_toList, hna]; omega)
  have harr : arr = arr0 := by
   have := hc.blk
   rw [b1] at this
   simp at this; exact this.1
  subst harr
  have hcat := concL_append.2 ⟨_, _, q3, q1, rfl⟩
  obtain ⟨φ', r1, r2, r3⟩ := hin (pl := p) (q := off) (arr := arr') (fz := fz) b3 hcat hes (hg.lo id p hp).1 b8 (fun i o' q hi hl hq => hg.kill_free hid rfl hp i o' q hi hl hq) b4 b5 (by rw [List.length_append, hol, hll]; omega) b6 (fun i hi => by
   rw [List.length_append, hol, hll] at hi
   rw [b7]
   by_cases h : i < len * sz
   ·rw [if_neg (by omega), List.getElem?_append_left (by rw [Array.length_toList, hoa]; exact h)]
    obtain ⟨xs, e1, e2⟩ := cells_row hc old off (by rw [hol]; omega) (fun j hj => hcl j (by rw [hol] at hj; exact hj))
    rw [q3] at e1
    cases e1
    have hx : oa.toList[i]? = some (oa.toList[i]'(by rw [Array.length_toList, hoa]; exact h)) := List.getElem?_eq_getElem _
    have := e2 i _ hx
    rw [add_plain] at this
    unfold World.cell? at this
    simp only [b1, Option.isSome_none, Bool.false_eq_true, if_false] at this
    rw [this, hx]
   ·rw [if_pos (by rw [Array.length_toList, hna]; omega), List.getElem?_append_right (by rw [Array.length_toList, hoa]; omega)]
    congr 1
    rw [Array.length_toList, hoa]; omega) (fun x hx => (hg.fr x hx).2.2 id p hp)
  refine ⟨φ', _, w', r1, r2, r3, append_in hT hn1 hu hs (lenOf_run hn hb') hroom na (q2 w rfl) ?_⟩
  show (storeCells ((⟨p.blk, p.sh + off, none⟩ : Addr).add (len * sz)) na.toList).run P w = _
  rw [add_plain, Nat.add_assoc]; exact b2
theorem appG_sound {Ts : Array TypeId} {T e sz n : Nat} {s : St} {x y : AV} {κ : AV → St → R} (hT : Ts[0]? = some T) (hn1 : notIntT P (Ts[1]?) = true) (hu : P.underlying T = some (.slice e)) (hs : sizeA P e = some sz) (hn : lenV y = some n)
  (h4 : appG P e sz n s x y κ ∈ D) : ∃ v s', κ v s' ∈ D ∧ s'.pc = s.pc ∧ ∀ {w0 φ w a b}, Gm P ρ w0 φ s w → conc φ ρ x = some a → conc φ ρ y = some b → AppO P ρ w0 φ w s' Ts a b v := by
 obtain ⟨l, h5, hll, hf⟩ := firstK_sound (P := P) (ρ := ρ) (show firstK s.hp sz n y (appK P e sz n s x κ) ∈ D from h4)
 have hll := hll n hn (Nat.le_refl _)
 unfold appK at h5
 split at h5
 ·-- nil
  rcases brec_cases h5 with ⟨hb, h6⟩ | ⟨hb, h6⟩
  ·rw [natBeq] at hb
   have hb := of_decide_eq_true hb
   have hb : n = 0 := hb
   subst hb
   refine ⟨_, s, h6, rfl, fun {w0 φ w a b} hg ha hb => ?_⟩
   simp only [conc, Option.some.injEq] at ha
   subst ha
   obtain ⟨na, q1, q2⟩ := first_any hf hg.hp hb
   exact ⟨φ, _, w, List.prefix_refl _, rfl, hg, append_in hT hn1 hu hs (lenOf_run hn hb) (by omega) na (q2 w rfl) rfl⟩
  ·rw [natBeq] at hb
   have hb : ¬ n = 0 := of_decide_eq_false hb
   obtain ⟨hok, v, s', h7, hpc, hnew, _⟩ := grow_new (P := P) (ρ := ρ) (sLen := 0) (n := n) h6 hs (by omega)
   refine ⟨v, s', h7, hpc, fun {w0 φ w a b} hg ha hb => ?_⟩
   simp only [conc, Option.some.injEq] at ha
   subst ha
   obtain ⟨na, q1, q2⟩ := first_any hf hg.hp hb
   exact hnew hg hT hn1 hu (lenOf_run hn hb) (show 0 < n by omega) #[] na (fun w' _ => first_zero) q2 rfl q1 (by simp) hll
 ·-- a slice whose room is known
  rename_i id off len c
  unfold appC at h5
  rw [forceN_eq] at h5
  rcases brec_cases h5 with ⟨hb, h6⟩ | ⟨hb, h6⟩
  ·rw [natBle] at hb
   have hb : len + n ≤ c := of_decide_eq_true hb
   obtain ⟨s', h7, hpc, h8⟩ := stP_sound (P := P) (ρ := ρ) h6
   refine ⟨_, s', h7, hpc, fun {w0 φ w a b} hg ha hb' => ?_⟩
   obtain ⟨p, hp, rfl⟩ := conc_sl ha
   obtain ⟨na, q1, q2⟩ := first_any hf hg.hp hb'
   obtain ⟨w', r1, r2⟩ := h8 hg hp q1
   refine ⟨φ, _, w', List.prefix_refl _, ?_, r2, append_in hT hn1 hu hs (lenOf_run hn hb') hb na (q2 w rfl) ?_⟩
   ·simp only [conc, hp, Option.map_some]; rfl
   ·show (storeCells ((⟨p.blk, p.sh + off, none⟩ : Addr).add (len * sz)) na.toList).run P w = _
    rw [add_plain, Nat.add_assoc]; exact r1
  ·rw [natBle] at hb
   have hb : ¬ len + n ≤ c := of_decide_eq_false hb
   obtain ⟨old, h7, hol, hof⟩ := firstK_sound (P := P) (ρ := ρ) h6
   have hol := hol len rfl (Nat.le_refl _)
   obtain ⟨hok, v, s', h8, hpc, hnew, _⟩ := grow_new (P := P) (ρ := ρ) (sLen := len) (n := n) h7 hs rfl
   refine ⟨v, s', h8, hpc, fun {w0 φ w a b} hg ha hb' => ?_⟩
   obtain ⟨na, q1, q2⟩ := first_any hf hg.hp hb'
   obtain ⟨oa, q3, q4⟩ := first_any hof hg.hp ha
   obtain ⟨p, hp, rfl⟩ := conc_sl ha
   exact hnew hg hT hn1 hu (lenOf_run hn hb') (by show c < len + n; omega) oa na q4 q2 q3 q1 hol hll
 ·-- a slice whose room is not known
  rename_i id off len
  unfold appU at h5
  rw [forceN_eq] at h5
  obtain ⟨k, c, d, T', r, hid, h7⟩ := objK_inv h5
  obtain ⟨hb, h8⟩ := brec_inv h7
  simp only [Bool.and_eq_true, natBeq, decide_eq_true_eq] at hb
  obtain ⟨hTe, rfl⟩ := hb
  have hTe := hTe.symm
  subst hTe
  rcases brec_cases h8 with ⟨hb, h9⟩ | ⟨hb, h9⟩
  ·rw [natBeq] at hb
   have hb : off + len * sz = k := of_decide_eq_true hb
   subst hb
   rcases brec_cases h9 with ⟨hb0, h9⟩ | ⟨_, h9⟩
   ·rw [natBeq] at hb0
    have hb0 : off = 0 := of_decide_eq_true hb0
    subst hb0
    obtain ⟨hb2, h10⟩ := brec_inv h9
    simp only [Bool.and_eq_true] at hb2
    obtain ⟨hok0, h1l⟩ := hb2
    have hok : growOk P e sz (len + n) = true := hok0
    rw [forceN_eq] at h10
    have h11 : κ (.sl s.nx 0 (len + n) none) ⟨(s.hp.set id .dead).set s.nx (.cells (0 + len * sz + lenL l) (setL c (0 + len * sz) l) d e true), s.nx + 1, s.pc⟩ ∈ D := by
     have h10 : forceN s.nx (fun nx => κ (.sl nx 0 (len + n) none) ⟨(s.hp.set id .dead).set nx (.cells (0 + len * sz + lenL l) (setL c (0 + len * sz) l) d e true), Nat.succ nx, s.pc⟩) ∈ D := h10
     rwa [forceN_eq] at h10
    refine ⟨_, _, h11, rfl, fun {w0 φ w a b} hg ha hb' => ?_⟩
    obtain ⟨p', arr0, fz0, hp', hc⟩ := hg.hp.obj _ _ hid
    obtain ⟨old, hol, hld, hget⟩ := ldN_ok (c := c) (d := d) (len * sz) 0 fun i hi => by
     obtain ⟨v, x, e1, _⟩ := hc.cell i (by omega)
     exact ⟨v, by rw [Nat.zero_add]; exact e1⟩
    have hone : allOne (old ++ l) = true := allOne_of fun v hv => by
     rcases List.mem_append.1 hv with h | h
     ·obtain ⟨i, hi, rfl⟩ := List.mem_iff_getElem.1 h
      obtain ⟨u, x, e1, _, _, e4⟩ := hc.cell i (by omega)
      have := hget i (by omega)
      rw [Nat.zero_add, e1, List.getElem?_eq_getElem hi] at this
      rw [Option.some.inj this]; exact e4
     ·exact allOne_mem h1l v h
    have hmem : firstK s.hp sz len (.sl id 0 len none) (fun old => growK P (killS s id) e sz (len + n) old l R.done) ∈ Dn.mk ρ (.sl s.nx 0 (len + n) none) ⟨(s.hp.set id .dead).set s.nx (.cells (lenL (old ++ l)) (trOf (old ++ l)) none e true), s.nx + 1, s.pc⟩ := by
     show objK s.hp id (fun m c d _ _ => Bool.rec (motive := fun _ => R) (.fail 124) (ldN c d 0 (Nat.mul len sz) _) (Nat.ble (Nat.add 0 (Nat.mul len sz)) m)) ∈ (_ : Dn)
     unfold objK
     rw [hid]
     show Bool.rec (motive := fun _ => R) (.fail 124) (ldN c d 0 (len * sz) _) (Nat.ble (0 + len * sz) (0 + len * sz)) ∈ (_ : Dn)
     rw [natBle, decide_eq_true (Nat.le_refl _)]
     show ldN c d 0 (len * sz) _ ∈ (_ : Dn)
     rw [hld]
     show Bool.rec (motive := fun _ => R) (.fail 127) (newL (killS s id) (old ++ l) e true _) (growOk P e sz (len + n)) ∈ (_ : Dn)
     rw [hok]
     show Bool.rec (motive := fun _ => R) (.fail 100) (forceN (lenL (old ++ l)) _) (allOne (old ++ l)) ∈ (_ : Dn)
     rw [hone]
     show forceN (lenL (old ++ l)) _ ∈ (_ : Dn)
     rw [forceN_eq]
     unfold newK killS
     simp only [forceN_eq]
     exact ⟨rfl, rfl⟩
    obtain ⟨v0, s0, h12, hpc0, h13⟩ := app_regrow (D := Dn.mk ρ (.sl s.nx 0 (len + n) none) ⟨(s.hp.set id .dead).set s.nx (.cells (lenL (old ++ l)) (trOf (old ++ l)) none e true), s.nx + 1, s.pc⟩) (ρ := ρ) hT hn1 hu hs hn hf hll hid hmem
    obtain ⟨rfl, rfl⟩ := h12
    have h14 := (h13 hg ha hb').swap (id := s.nx) (n := lenL (old ++ l)) (c := trOf (old ++ l)) (d := none) (T := e) (r := true) (c' := setL c (0 + len * sz) l) (d' := d) (by simp [Tr.get_set]) fun i hi => by
     rw [lenL_eq, List.length_append] at hi
     unfold celA
     rw [setL_get, show trOf (old ++ l) = setL .nil 0 (old ++ l) from rfl, setL_get]
     by_cases h : i < len * sz
     ·rw [if_neg (by omega), if_pos (by simp; omega), Nat.sub_zero, List.getElem?_append_left (by omega), hget i h, Nat.zero_add]
      obtain ⟨u, x, e1, _⟩ := hc.cell i (by omega)
      rw [e1]
      unfold celA at e1
      rw [e1]
     ·rw [if_pos (by omega), if_pos (by simp; omega), Nat.sub_zero, List.getElem?_append_right (by omega), hol, Nat.zero_add]
      have : i - len * sz < l.length := by omega
      rw [List.getElem?_eq_getElem this]
    rw [show (lenL (old ++ l)) = 0 + len * sz + lenL l by rw [lenL_eq, lenL_eq, List.length_append, hol]; omega] at h14
    simpa [Tr.set_set] using h14
   ·exact app_regrow hT hn1 hu hs hn hf hll hid h9
  ·obtain ⟨hle, h10⟩ := brec_inv h9
   rw [natBle] at hle
   have hle : off + (len + n) * sz ≤ k := of_decide_eq_true hle
   obtain ⟨s', h11, hpc, h12⟩ := stP_sound (P := P) (ρ := ρ) h10
   refine ⟨_, s', h11, hpc, fun {w0 φ w a b} hg ha hb' => ?_⟩
   obtain ⟨na, q1, q2⟩ := first_any hf hg.hp hb'
   obtain ⟨p, hp, rfl⟩ := conc_sl ha
   obtain ⟨p', arr0, fz0, hp', hc⟩ := hg.hp.obj _ _ hid
   rw [hp] at hp'; cases hp'
   have hes := hc.es rfl
   rw [hs] at hes
   have hes1 : p.es = sz := (Option.some.inj hes.1).symm
   obtain ⟨w', r1, r2⟩ := h12 hg hp q1
   refine ⟨φ, _, w', List.prefix_refl _, ?_, r2, append_in hT hn1 hu hs (lenOf_run hn hb') (room_le hes1 (by rw [← hes1]; exact hes.2) hle hc.le) na (q2 w rfl) ?_⟩
   ·simp only [conc, hp, Option.map_some]; rfl
   ·show (storeCells ((⟨p.blk, p.sh + off, none⟩ : Addr).add (len * sz)) na.toList).run P w = _
    rw [add_plain, Nat.add_assoc]; exact r1
 ·-- an exhausted one
  rename_i id off0 off
  rcases brec_cases h5 with ⟨hb, h6⟩ | ⟨hb0, h6⟩
  ·rw [natBeq] at hb
   have hb : n = 0 := of_decide_eq_true hb
   subst hb
   refine ⟨_, s, h6, rfl, fun {w0 φ w a b} hg ha hb' => ?_⟩
   obtain ⟨na, q1, q2⟩ := first_any hf hg.hp hb'
   have hna : na.toList = [] := by
    have := concL_length q1
    rw [hll, Nat.zero_mul] at this
    exact List.length_eq_zero_iff.1 this
   have ha' := ha
   simp only [conc, Option.map_eq_some_iff] at ha
   obtain ⟨p, hp, rfl⟩ := ha
   by_cases hr : p.room off = 0
   ·rw [if_pos hr] at ha' ⊢
    exact ⟨φ, _, w, List.prefix_refl _, ha', hg, append_in hT hn1 hu hs (lenOf_run hn hb') (by omega) na (q2 w rfl) (by rw [hna]; rfl)⟩
   ·rw [if_neg hr] at ha' ⊢
    exact ⟨φ, _, w, List.prefix_refl _, ha', hg, append_in hT hn1 hu hs (lenOf_run hn hb') (by omega) na (q2 w rfl) (by rw [hna]; rfl)⟩
  ·rw [natBeq] at hb0
   have hb0 : ¬ n = 0 := of_decide_eq_false hb0
   unfold appE at h6
   obtain ⟨k, c, d, T', r, hid, h7⟩ := objK_inv h6
   obtain ⟨hb, h10⟩ := brec_inv h7
   simp only [Bool.and_eq_true, natBeq, natBle, decide_eq_true_eq] at hb
   obtain ⟨hko, rfl, rfl⟩ := hb
   have h1n := growK_one h10
   obtain ⟨hok, v, s', h11, hpc, hnew, hin⟩ := grow_new (P := P) (ρ := ρ) (sLen := 0) (n := n) h10 hs (by omega)
   obtain ⟨i, z, hi, hz, hb0', hsz0, hmax, hcb⟩ := growOk_spec hok
   refine ⟨v, s', h11, hpc, fun {w0 φ w a b} hg ha hb' => ?_⟩
   obtain ⟨na, q1, q2⟩ := first_any hf hg.hp hb'
   simp only [conc, Option.map_eq_some_iff] at ha
   obtain ⟨p, hp, rfl⟩ := ha
   obtain ⟨p', arr0, fz0, hp', hc⟩ := hg.hp.obj _ _ hid
   rw [hp] at hp'; cases hp'
   have hes : p.es = sz := by
    have := (hc.es rfl).1
    rw [hs] at this
    exact (Option.some.inj this).symm
   have hcle := hc.le
   have hna : na.size = n * sz := by rw [← Array.length_toList, concL_length q1, hll]
   by_cases hr : p.room off = 0
   ·rw [if_pos hr]
    exact hnew (hg.kill hid) hT hn1 hu (lenOf_run hn hb') (show 0 < n by omega) #[] na (fun w' _ => first_zero) q2 rfl q1 (by simp) hll
   ·rw [if_neg hr]
    rcases Nat.lt_or_ge (p.room off) n with hroom | hroom
    ·exact hnew (hg.kill hid) hT hn1 hu (lenOf_run hn hb') hroom #[] na (fun w' _ => first_zero) q2 rfl q1 (by simp) hll
    ·have hso : p.sh + off ≤ p.sz := by
      rcases Nat.lt_or_ge p.sz (p.sh + off) with hx | hx
      ·exfalso
       unfold Pl.room at hroom
       rw [show p.sz - (p.sh + off) = 0 by omega, Nat.zero_div] at hroom
       omega
      ·exact hx
     have hfit := le_room hes hsz0 hroom (by omega)
     obtain ⟨w', arr, arr', fz, b1, b2, b3, b4, b5, b6, b7, b8⟩ := store_beyond hg hid hp (o := off) (xs := na.toList) (one_all h1n q1) (by rw [Array.length_toList, hna]; omega)
     obtain ⟨φ', r1, r2, r3⟩ := hin (pl := p) (q := off) (arr := arr') (fz := fz) (xs := na.toList) b3 q1 hes (hg.lo id p hp).1 b8 (fun i o' q hi hl hq => hg.kill_free hid rfl hp i o' q hi hl hq) b4 b5 (by rw [List.nil_append, hll]; omega) b6 (fun i hi => by
      rw [List.nil_append, hll] at hi
      rw [b7, if_pos (by rw [Array.length_toList, hna]; omega)]
      congr 1; omega) (fun x hx => (hg.fr x hx).2.2 id p hp)
     refine ⟨φ', _, w', r1, r2, r3, ?_⟩
     have := append_in (P := P) (w' := w') (sLen := 0) (sCap := p.room off) (p := some ⟨p.blk, p.sh + off, none⟩) hT hn1 hu hs (lenOf_run hn hb') (by omega) na (q2 w rfl) (by
      show (storeCells ((⟨p.blk, p.sh + off, none⟩ : Addr).add (0 * sz)) na.toList).run P w = _
      rw [add_plain, Nat.zero_mul, Nat.add_zero]; exact b2)
     simpa using this
 ·rcases brec_cases h5 with ⟨hb, h6⟩ | ⟨hb, h6⟩
  ·rw [natBeq] at hb
   have hb : n = 0 := of_decide_eq_true hb
   subst hb
   refine ⟨_, s, h6, rfl, fun {w0 φ w a b} hg ha hb' => ?_⟩
   obtain ⟨na, q1, q2⟩ := first_any hf hg.hp hb'
   have hna : na.toList = [] := by
    have := concL_length q1
    rw [hll, Nat.zero_mul] at this
    exact List.length_eq_zero_iff.1 this
   have ha' := ha
   simp only [conc, Option.map_eq_some_iff] at ha
   obtain ⟨p, hp, rfl⟩ := ha
   exact ⟨φ, _, w, List.prefix_refl _, ha', hg, append_in hT hn1 hu hs (lenOf_run hn hb') (by omega) na (q2 w rfl) (by rw [hna]; rfl)⟩
  ·rw [natBeq] at hb
   have hb0 : ¬ n = 0 := of_decide_eq_false hb
   obtain ⟨hok, v, s', h7, hpc, hnew, _⟩ := grow_new (P := P) (ρ := ρ) (sLen := 0) (n := n) h6 hs (by omega)
   refine ⟨v, s', h7, hpc, fun {w0 φ w a b} hg ha hb' => ?_⟩
   simp only [conc, Option.map_eq_some_iff] at ha
   obtain ⟨p, hp, rfl⟩ := ha
   obtain ⟨na, q1, q2⟩ := first_any hf hg.hp hb'
   exact hnew hg hT hn1 hu (lenOf_run hn hb') (show 0 < n by omega) #[] na (fun w' _ => first_zero) q2 rfl q1 (by simp) hll
 ·cases h5
theorem appN_sound {Ts : Array TypeId} {T e sz n : Nat} {s : St} {x y : AV} {κ : AV → St → R} (hT : Ts[0]? = some T) (hn1 : notIntT P (Ts[1]?) = true) (hu : P.underlying T = some (.slice e)) (hs : sizeA P e = some sz) (hn : lenV y = some n)
  (h4 : appN P e sz n s x y κ ∈ D) : ∃ v s', κ v s' ∈ D ∧ s'.pc = s.pc ∧ ∀ {w0 φ w a b}, Gm P ρ w0 φ s w → conc φ ρ x = some a → conc φ ρ y = some b → AppO P ρ w0 φ w s' Ts a b v := by
 unfold appN at h4
 split at h4
 ·split at h4
  ·rename_i id off len cap
   rcases brec_cases h4 with ⟨hb, h5⟩ | ⟨_, h5⟩
   ·simp only [Bool.and_eq_true, natBeq, notF_eq, Bool.not_eq_true', decide_eq_true_eq, decide_eq_false_iff_not] at hb
    obtain ⟨hb0, hb1⟩ := hb
    have hb0 : off = 0 := hb0
    have hb1 : ¬ n = 0 := hb1
    subst hb0
    obtain ⟨k, c, d, T', r, hid, h6⟩ := objK_inv h5
    obtain ⟨hle, h7⟩ := brec_inv h6
    rw [natBle] at hle
    have hle : n * sz ≤ k := of_decide_eq_true hle
    obtain ⟨hok, h8⟩ := brec_inv h7
    rw [forceN_eq] at h8
    have h11 : κ (.sl s.nx 0 n none) ⟨s.hp.set s.nx (.cells (n * sz) c d e true), s.nx + 1, s.pc⟩ ∈ D := by
     have h10 : forceN s.nx (fun nx => κ (.sl nx 0 n none) ⟨s.hp.set nx (.cells (n * sz) c d e true), Nat.succ nx, s.pc⟩) ∈ D := by cases s; exact h8
     rwa [forceN_eq] at h10
    refine ⟨_, _, h11, rfl, fun {w0 φ w a b} hg ha hb' => ?_⟩
    obtain ⟨p', arr0, fz0, hp', hc⟩ := hg.hp.obj _ _ hid
    obtain ⟨l, hol, hld, hget⟩ := ldN_ok (c := c) (d := d) (n * sz) 0 fun i hi => by
     obtain ⟨v, x, e1, _⟩ := hc.cell i (by omega)
     exact ⟨v, by rw [Nat.zero_add]; exact e1⟩
    have hone : allOne ([] ++ l) = true := allOne_of fun v hv => by
     obtain ⟨i, hi, rfl⟩ := List.mem_iff_getElem.1 hv
     obtain ⟨u, x, e1, _, _, e4⟩ := hc.cell i (by simp at hi; omega)
     have := hget i (by simp at hi; omega)
     rw [Nat.zero_add, e1, List.getElem?_eq_getElem (by simpa using hi)] at this
     simp only [List.nil_append]
     rw [Option.some.inj this]; exact e4
    have hmem : appG P e sz n s (.raw (.slice none 0 0)) (.sl id 0 len cap) R.done ∈ Dn.mk ρ (.sl s.nx 0 n none) ⟨s.hp.set s.nx (.cells (lenL ([] ++ l)) (trOf ([] ++ l)) none e true), s.nx + 1, s.pc⟩ := by
     show objK s.hp id (fun m c d _ _ => Bool.rec (motive := fun _ => R) (.fail 124) (ldN c d 0 (Nat.mul n sz) _) (Nat.ble (Nat.add 0 (Nat.mul n sz)) m)) ∈ (_ : Dn)
     unfold objK
     rw [hid]
     show Bool.rec (motive := fun _ => R) (.fail 124) (ldN c d 0 (n * sz) _) (Nat.ble (0 + n * sz) k) ∈ (_ : Dn)
     rw [natBle, decide_eq_true (by omega)]
     show ldN c d 0 (n * sz) _ ∈ (_ : Dn)
     rw [hld]
     show Bool.rec (motive := fun _ => R) (growK P s e sz n [] l R.done) _ (Nat.beq n 0) ∈ (_ : Dn)
     rw [natBeq, decide_eq_false hb1]
     show Bool.rec (motive := fun _ => R) (.fail 127) (newL s ([] ++ l) e true _) (growOk P e sz n) ∈ (_ : Dn)
     rw [hok]
     show Bool.rec (motive := fun _ => R) (.fail 100) (forceN (lenL ([] ++ l)) _) (allOne ([] ++ l)) ∈ (_ : Dn)
     rw [hone]
     show forceN (lenL ([] ++ l)) _ ∈ (_ : Dn)
     rw [forceN_eq]
     cases s
     unfold newK
     simp only [forceN_eq]
     exact ⟨rfl, rfl⟩
    obtain ⟨v0, s0, h12, hpc0, h13⟩ := appG_sound (D := Dn.mk ρ (.sl s.nx 0 n none) ⟨s.hp.set s.nx (.cells (lenL ([] ++ l)) (trOf ([] ++ l)) none e true), s.nx + 1, s.pc⟩) (ρ := ρ) hT hn1 hu hs hn hmem
    obtain ⟨rfl, rfl⟩ := h12
    have h14 := (h13 hg ha hb').swap (id := s.nx) (n := lenL ([] ++ l)) (c := trOf ([] ++ l)) (d := none) (T := e) (r := true) (c' := c) (d' := d) (by simp [Tr.get_set]) fun i hi => by
     rw [lenL_eq, List.nil_append] at hi
     unfold celA
     rw [show trOf ([] ++ l) = setL .nil 0 l from rfl, setL_get, if_pos (by omega), Nat.sub_zero, hget i (by omega), Nat.zero_add]
     obtain ⟨u, x, e1, _⟩ := hc.cell i (by omega)
     rw [e1]
     unfold celA at e1
     rw [e1]
    rw [show lenL ([] ++ l) = n * sz by rw [lenL_eq, List.nil_append, hol]] at h14
    simpa [Tr.set_set] using h14
   ·exact appG_sound hT hn1 hu hs hn h5
  ·exact appG_sound hT hn1 hu hs hn h4
 ·exact appG_sound hT hn1 hu hs hn h4
theorem app_sound {Ts : Array TypeId} {s : St} {x y : AV} {κ : AV → St → R} (hD : appA P Ts s x y κ ∈ D) : ∃ v s', κ v s' ∈ D ∧ s'.pc = s.pc ∧ ∀ {w0 φ w a b}, Gm P ρ w0 φ s w → conc φ ρ x = some a → conc φ ρ y = some b → AppO P ρ w0 φ w s' Ts a b v := by
 obtain ⟨T, hT, h1⟩ := optK_inv hD
 obtain ⟨t, ht, h2⟩ := optK_inv h1
 split at h2
 ·rename_i e sz
  obtain ⟨hu, hs⟩ := ixOf_sli ht
  obtain ⟨hn1, h3⟩ := brec_inv h2
  obtain ⟨n, hn, h4⟩ := lenOfK_inv h3
  exact appN_sound hT hn1 hu hs hn h4
 ·cases h2
end
end Go.Proofs.YtooebogidjejoaaGreat
namespace Go.Proofs.YtooebogidjejoaaGreat
open Go
section
variable {P : Program} {ρ : Nat → Int} {D : Dn}
def bytV (zs : List Int) : List Value := zs.map fun z => .int .u8 z
theorem bytV_len (zs : List Int) : (bytV zs).length = zs.length := by simp [bytV]
theorem bytV_one (zs : List Int) : ∀ v ∈ bytV zs, v.oneCell' = true := by
 intro v hv
 simp only [bytV, List.mem_map] at hv
 obtain ⟨z, _, rfl⟩ := hv
 rfl
theorem first_bytes {w : World} {b o m c : Nat} {zs : List Int} (h : BytesAt w b o zs) {k : Nat} (hk : k ≤ zs.length) : (Builtin.firstCells 1 k (.slice (some ⟨b, o, none⟩) m c)).run P w = .ok (bytV (zs.take k)).toArray w := by
 have hr := run_loadCells_list (P := P) (w := w) ⟨b, o, none⟩ (bytV (zs.take k)) (fun j x hj => by
  simp only [bytV, List.getElem?_map, Option.map_eq_some_iff] at hj
  obtain ⟨z, hz, rfl⟩ := hj
  rw [List.getElem?_take] at hz
  split at hz
  ·rw [add_plain]
   exact h j z hz
  ·cases hz)
 have hm : (bytV (zs.take k)).length = k * 1 := by rw [bytV_len, List.length_take, Nat.mul_one, Nat.min_eq_left hk]
 rw [hm] at hr
 exact hr
theorem BytesAt.heap {w w' : World} {b o : Nat} {zs : List Int} (h : BytesAt w b o zs) (he : w'.heap = w.heap) : BytesAt w' b o zs := by
 intro i z hz
 have := h i z hz
 unfold World.cell? at this ⊢
 rw [he]
 exact this
theorem readR_sound {s : St} {x : AV} {pc : PC} {κ : List Ch → PC → R} (hD : readR s.hp pc x κ ∈ D) : ∃ cs pc', κ cs pc' ∈ D ∧ PcExt pc pc' ∧ ∀ {w0 φ w v}, Holds ρ pc' → Gm P ρ w0 φ s w → conc φ ρ x = some v →
  ∃ a m c, v = .slice a m c ∧ m = (ropeZ ρ cs).length ∧ ∀ k, k ≤ m → ∀ w' : World, w'.heap = w.heap → (Builtin.firstCells 1 k v).run P w' = .ok (bytV ((ropeZ ρ cs).take k)).toArray w' := by
 have none0 : ∀ {a : Option Addr} {c k : Nat} {w' : World}, k ≤ 0 → (Builtin.firstCells 1 k (.slice a 0 c)).run P w' = .ok (bytV (([] : List Int).take k)).toArray w' := by
  intro a c k w' hk
  obtain rfl : k = 0 := by omega
  cases a <;> rfl
 unfold readR at hD
 split at hD
 ·rename_i id off len cap
  obtain ⟨o, ho, h1⟩ := optK_inv hD
  obtain ⟨cs, pc', h2, hx, _, h3⟩ := readO_inv h1
  refine ⟨cs, pc', h2, hx, fun {w0 φ w v} hρ hg hv => ?_⟩
  obtain ⟨p, hp, rfl⟩ := conc_sl hv
  obtain ⟨a1, a2, a3, a4, a5⟩ := h3 hρ (hg.hp.obj _ _ ho) hp
  have a4 : (ropeZ ρ cs).length = len := a4
  exact ⟨_, _, _, rfl, a4.symm, fun k hk w' he => first_bytes (a5.heap he) (by omega)⟩
 ·rename_i id o0 off len cap
  obtain ⟨o, ho, h1⟩ := optK_inv hD
  obtain ⟨cs, pc', h2, hx, _, h3⟩ := readO_inv h1
  refine ⟨cs, pc', h2, hx, fun {w0 φ w v} hρ hg hv => ?_⟩
  have hpl : ∃ p, φ[id]? = some p := by
   simp only [conc, Option.map_eq_some_iff] at hv
   obtain ⟨p, hp, _⟩ := hv
   exact ⟨p, hp⟩
  obtain ⟨p, hp⟩ := hpl
  obtain ⟨a1, a2, a3, a4, a5⟩ := h3 hρ (hg.hp.obj _ _ ho) hp
  cases cap with
  | some c =>
   rw [ssl_some hp] at hv
   cases hv
   exact ⟨_, _, _, rfl, a4.symm, fun k hk w' he => first_bytes (a5.heap he) (by omega)⟩
  | none =>
   rw [ssl_none hp] at hv
   cases hv
   split
   ·rename_i hz
    rw [hz.1] at a4
    have hn : ropeZ ρ cs = [] := List.length_eq_zero_iff.1 a4
    rw [hn]
    exact ⟨_, _, _, rfl, rfl, fun k hk w' he => none0 hk⟩
   ·exact ⟨_, _, _, rfl, a4.symm, fun k hk w' he => first_bytes (a5.heap he) (by omega)⟩
 ·rename_i a o0 off len
  obtain ⟨e, h1, he⟩ := plE_inv hD
  obtain ⟨b, pc', h2, hx, hle⟩ := leD_inv h1
  obtain ⟨hb, h3⟩ := brec_inv h2
  simp only [Bool.and_eq_true, natBle, natBlt, decide_eq_true_eq] at hb
  obtain ⟨rfl, hj1, hj2⟩ := hb
  refine ⟨_, pc', h3, hx, fun {w0 φ w v} hρ hg hv => ?_⟩
  obtain ⟨m1, m2, m3, rfl⟩ := fsl_some hv
  obtain ⟨f1, f2, f3⟩ := he ρ (by rw [← hx.rg]; exact hρ.rg)
  have hl : e.ev ρ ≤ ρ a := (hle ρ hρ).1 rfl
  have hzl : (ropeZ ρ [.row a off len]).length = (len.ev ρ).toNat := by simp [ropeZ, Ch.zs]
  refine ⟨_, _, _, rfl, hzl.symm, fun k hk w' hh => ?_⟩
  refine first_bytes (BytesAt.heap (w := w) (fun i z hz => ?_) hh) (by omega)
  have hi : i < (len.ev ρ).toNat := by
   rw [← hzl]
   exact (List.getElem?_eq_some_iff.1 hz).1
  have hz2 : z = rowB ρ a ((off.ev ρ).toNat + i) := by
   simp only [ropeZ, List.flatMap_cons, List.flatMap_nil, List.append_nil, Ch.zs, List.getElem?_map, Option.map_eq_some_iff] at hz
   obtain ⟨i', h5, rfl⟩ := hz
   rw [List.getElem?_range hi] at h5
   cases h5
   rfl
  obtain ⟨_, _, hc⟩ := hg.fo a hj1 hj2 m1
  obtain ⟨arr, T, fz, b1, b2⟩ := hc ((off.ev ρ).toNat + i) (by omega)
  have hcap : ¬ (ρ (fCap a)).toNat ≤ (off.ev ρ).toNat := by omega
  rw [if_neg hcap]
  have hblk : w.heap[(ρ (fBlk a)).toNat]? = some (.cells arr T fz) := by
   rw [← b1]
   exact hg.kp.block _ (Array.getElem?_eq_some_iff.1 b1).1 (by simp)
  subst hz2
  simp only [World.cell?, hblk]
  show arr[(ρ (fOff a)).toNat + (off.ev ρ).toNat + i]? = _
  rw [Nat.add_assoc]
  exact b2
 ·refine ⟨_, pc, hD, .refl _, fun {w0 φ w v} hρ hg hv => ?_⟩
  simp only [conc, Option.some.injEq] at hv
  subst hv
  exact ⟨_, _, _, rfl, rfl, fun k hk w' he => none0 hk⟩
 ·refine ⟨_, pc, hD, .refl _, fun {w0 φ w v} hρ hg hv => ?_⟩
  simp only [conc, Option.map_eq_some_iff] at hv
  obtain ⟨p, _, rfl⟩ := hv
  split
  ·exact ⟨_, _, _, rfl, rfl, fun k hk w' he => none0 hk⟩
  ·exact ⟨_, _, _, rfl, rfl, fun k hk w' he => none0 hk⟩
 ·refine ⟨_, pc, hD, .refl _, fun {w0 φ w v} hρ hg hv => ?_⟩
  simp only [conc, Option.map_eq_some_iff] at hv
  obtain ⟨p, _, rfl⟩ := hv
  exact ⟨_, _, _, rfl, rfl, fun k hk w' he => none0 hk⟩
 ·obtain ⟨hb, h1⟩ := brec_inv hD
  refine ⟨_, pc, h1, .refl _, fun {w0 φ w v} hρ hg hv => ?_⟩
  obtain ⟨p, k, c, e, h2⟩ := osl0_ev hb
  cases e
  rw [h2 hρ.rg hv]
  exact ⟨_, _, _, rfl, rfl, fun k hk w' he => none0 hk⟩
 ·cases hD
theorem appCh_inv : ∀ {a b : List Ch} {κ : List Ch → R}, appCh a b κ ∈ D → κ (a ++ b) ∈ D
 | [], b, κ, h => h
 | c :: a, b, κ, h => appCh_inv (a := a) (κ := fun r => κ (c :: r)) h
theorem ropeZ_app (a b : List Ch) : ropeZ ρ (a ++ b) = ropeZ ρ a ++ ropeZ ρ b := by simp [ropeZ]
theorem totR_inv {pc : PC} : ∀ {cs : List Ch} {κ : SI → R}, totR cs pc κ ∈ D → ∃ t, κ t ∈ D ∧ ∀ ρ, RgOk ρ pc.rg → 0 ≤ t.ev ρ ∧ (ropeZ ρ cs).length = (t.ev ρ).toNat
 | [], κ, h => ⟨zeroS, h, fun ρ _ => ⟨Int.le_refl _, rfl⟩⟩
 | c :: cs, κ, h => by
  obtain ⟨m, h1, hm⟩ := lenH_inv (show lenH c (fun m => totR cs pc fun t => plE pc m t κ) ∈ D from h)
  obtain ⟨t, h2, ht⟩ := totR_inv h1
  obtain ⟨e, h3, he⟩ := plE_inv h2
  refine ⟨e, h3, fun ρ hr => ?_⟩
  obtain ⟨e1, e2, e3⟩ := he ρ hr
  have := hm ρ
  have := (ht ρ hr).2
  rw [ropeZ_cons, List.length_append]
  omega
theorem ltB_ok {rg : List (Int × Int)} {e : SI} (h : ltB rg e = true) {ρ : Nat → Int} (hr : RgOk ρ rg) : 0 ≤ e.ev ρ ∧ e.ev ρ ≤ 1099511627776 := by
 unfold ltB at h
 cases hx : rngS rg e with
 | none => rw [hx] at h; cases h
 | some r =>
  obtain ⟨l, u⟩ := r
  rw [hx] at h
  have h : (pos0 l && leF u (.ofNat (nat_lit 1099511627776))) = true := h
  simp only [Bool.and_eq_true, pos0_eq, leF_eq, decide_eq_true_eq] at h
  have hin := rngS_in hr e l u hx
  have h2 : u ≤ 1099511627776 := h.2
  omega
theorem byteT_ok {e sz : Nat} (h : byteT P e sz = true) : sz = 1 ∧ bytesA P e = some 1 ∧ zeroA P e = some (.int .u8 (.lit (.ofNat 0))) := by
 simp only [byteT, Bool.and_eq_true, natBeq, decide_eq_true_eq] at h
 obtain ⟨_, h2, h3, h4⟩ := h
 refine ⟨h2, ?_, ?_⟩
 ·unfold oneU at h3
  split at h3
  ·assumption
  ·cases h3
 ·unfold zeroU at h4
  split at h4
  ·assumption
  ·cases h4
theorem growOk_byte {e : Nat} (hb : bytesA P e = some 1) (hz : zeroA P e = some (.int .u8 (.lit (.ofNat 0)))) {N : Nat} (hN : N ≤ 1099511627776) : growOk P e 1 N = true := by
 unfold growOk
 rw [hb]
 simp only
 rw [hz]
 simp only [cellsK, lenL]
 simp only [Bool.and_eq_true, natBeq, natBlt, natBle, decide_eq_true_eq, Bool.not_eq_true', decide_eq_false_iff_not]
 have h1 : (2 * N + 1000) * 1 ≤ 281474976710656 := by omega
 first | exact ⟨trivial, (by decide), (by decide), h1⟩ | exact ⟨rfl, (by decide), (by decide), h1⟩ | simpa using h1
theorem newP_sound {s : St} {cs : List Ch} {T : TypeId} {row : Bool} {κ : Nat → St → R} (hD : newP s (.rope cs T row) κ ∈ D) : ∃ s', κ s.nx s' ∈ D ∧ s'.pc = s.pc ∧ ∀ {w0 φ w p arr fz}, Gm P ρ w0 φ s w → w0.w0.heap.size ≤ p.blk → p.blk < w.heap.size → (∀ i o' q, s.hp.get i = some o' → live o' = true → φ[i]? = some q → q.blk ≠ p.blk) →
  (∀ x ∈ w0.fr, p.blk ≠ x.1) → RopeOk P ρ w p arr fz cs T row → Gm P ρ w0 (φ ++ [p]) s' w ∧ (φ ++ [p])[s.nx]? = some p := by
 obtain ⟨hp, nx, pc⟩ := s
 have h1 := Eq.mp (congrArg (· ∈ D) (forceN_eq nx _)) (show forceN nx (fun nx => κ nx ⟨hp.set nx (.rope cs T row), Nat.succ nx, pc⟩) ∈ D from hD)
 refine ⟨_, h1, rfl, fun {w0 φ w p arr fz} hg hlo hhi hfree hfr ho => ?_⟩
 have hlen : φ.length = nx := hg.len
 have hnx : (φ ++ [p])[nx]? = some p := by rw [← hlen]; simp
 have ho' : ObjOk P (φ ++ [p]) ρ w nx (.rope cs T row) := ⟨p, arr, fz, hnx, ho⟩
 exact ⟨hg.add hlo hhi hfree ho' pc hfr, hnx⟩
theorem bytV_get {zs : List Int} {i : Nat} {z : Int} (h : zs[i]? = some z) : (bytV zs)[i]? = some (.int .u8 z) := by simp [bytV, h]
theorem makeR_sound {T : TypeId} {x y : AV} {s : St} {κ : AV → St → R} (hD : makeR P T x y s κ ∈ D) : ∃ v s', κ v s' ∈ D ∧ s'.pc = s.pc ∧ ∀ {w0 φ w a b}, RgOk ρ s.pc.rg → Gm P ρ w0 φ s w → conc φ ρ x = some a → conc φ ρ y = some b → ∃ φ' z w', φ <+: φ' ∧ conc φ' ρ v = some z ∧ Gm P ρ w0 φ' s' w' ∧ (Instr.makeSlice T a b).run P w = .ok z w' := by
 obtain ⟨k, l, rfl, h1⟩ := intV_inv hD
 obtain ⟨k', c, rfl, h2⟩ := intV_inv h1
 obtain ⟨d, hd, h3⟩ := optK_inv h2
 split at h3
 rotate_left
 ·cases h3
 rename_i e sz
 obtain ⟨hu, hs⟩ := ixOf_sli hd
 obtain ⟨hb, h4⟩ := brec_inv h3
 simp only [Bool.and_eq_true] at hb
 obtain ⟨hlc, hlt, hby⟩ := hb
 obtain rfl := SI.beq_eq _ _ hlc
 obtain ⟨rfl, hb1, hz⟩ := byteT_ok hby
 obtain ⟨s', h5, hpc, h6⟩ := newP_sound (P := P) (ρ := ρ) h4
 refine ⟨_, s', h5, hpc, fun {w0 φ w a b} hr hm ha hb => ?_⟩
 obtain ⟨l1, l2⟩ := ltB_ok hlt hr
 simp only [conc, Option.some.injEq] at ha hb
 subst ha; subst hb
 obtain ⟨zv, hzr, hzc⟩ := zero_conc hz (w := w) (φ := φ) (ρ := ρ)
 simp only [conc, SI.ev, Option.some.injEq] at hzc
 obtain ⟨n, hn⟩ : ∃ n : Nat, l.ev ρ = (n : Int) := ⟨(l.ev ρ).toNat, by omega⟩
 have hnt : (l.ev ρ).toNat = n := by omega
 have hrun := run_makeSlice (P := P) (w := w) (k := k) (k' := k') hu hs hb1 (Nat.le_refl n) (by omega) (by omega) hzr (by rw [← hzc]; rfl) (by omega)
 rw [← hn] at hrun
 have hzl : zv.cells.toList = [.int .u8 0] := by rw [← hzc]; rfl
 rw [hzl] at hrun
 have hrl : (repG [Value.int .u8 0] n).length = n := by rw [repG_length]; simp
 have hrz : ropeZ ρ [.fil l zeroS] = List.replicate n 0 := by
  simp only [ropeZ, List.flatMap_cons, List.flatMap_nil, List.append_nil, Ch.zs, hnt]
  rfl
 have ho : RopeOk P ρ { w with heap := w.heap.push (.cells (repG [Value.int .u8 0] n).toArray e) } ⟨w.heap.size, 0, n, 1⟩ (repG [Value.int .u8 0] n).toArray (0, 0) [.fil l zeroS] e false := by
  refine ⟨by simp, by simp [hrl], by rw [hrz]; simp, fun _ => ⟨rfl, by rw [hrz]; simp, rfl, rfl⟩, (fun h => by cases h), rfl, (fun i _ h => by simp at h), fun i z hz => ?_⟩
  rw [hrz] at hz
  have hi : i < n := by
   have := (List.getElem?_eq_some_iff.1 hz).1
   simpa using this
  rw [List.getElem?_replicate_of_lt hi] at hz
  cases hz
  simp only [Nat.zero_add, List.getElem?_toArray]
  rw [repG_get _ _ _ (by simpa using hi)]
  simp [Nat.mod_one]
 obtain ⟨r1, r2⟩ := h6 (hm.push (.cells (repG [Value.int .u8 0] n).toArray e)) (p := ⟨w.heap.size, 0, n, 1⟩) hm.kp.size (by simp) (fun i o' q hi hl hq he => by have := (hm.lo i q hq).2; simp only at he; omega) (fun x hx => Nat.ne_of_gt (hm.fr x hx).1) ho
 refine ⟨_, _, _, pre_one _ _, ?_, r1, hrun⟩
 rw [ssl_some r2]
 have e0 : (zeroS.ev ρ).toNat = 0 := rfl
 simp only [e0, hnt, Nat.add_zero]
theorem Gm.toRope {s : St} {w w' : World} {w0 : Base} {φ : List Pl} {pc : PC} (hg : Gm P ρ w0 φ s w) {id : Nat} {o : AObj} {p : Pl} (hid : s.hp.get id = some o) (hl : live o = true) (hp : φ[id]? = some p) (hk : Kp [p.blk] w w') {arr : Array Value} {fz : Nat × Nat} {cs : List Ch} {T : TypeId} {r : Bool} (ho : RopeOk P ρ w' p arr fz cs T r) : Gm P ρ w0 φ ⟨s.hp.set id (.rope cs T r), s.nx, pc⟩ w' :=
 (hg.upd hid hl hp hk (o' := .rope cs T r) ⟨p, arr, fz, hp, ho⟩).pc pc
theorem wrtC_sound {s : St} {pc : PC} {id : Nat} {off n : SI} {cs ws : List Ch} {T : TypeId} {r : Bool} {κ : St → R} (hD : wrtC s pc id off n cs ws T r κ ∈ D) : ∃ s', κ s' ∈ D ∧ PcExt pc s'.pc ∧ ∀ {w0 φ w p o arr fz}, Holds ρ s'.pc → Gm P ρ w0 φ s w → s.hp.get id = some o → live o = true → φ[id]? = some p → RopeOk P ρ w p arr fz ws T r → (ropeZ ρ cs).length = (n.ev ρ).toNat →
  ∃ w', (storeCells ⟨p.blk, p.sh + (off.ev ρ).toNat, none⟩ (bytV (ropeZ ρ cs))).run P w = .ok () w' ∧ Gm P ρ w0 φ s' w' := by
 obtain ⟨a, pc1, h1, x1, ha⟩ := takeR_inv hD
 obtain ⟨e, h2, he⟩ := plE_inv h1
 obtain ⟨b, pc2, h3, x2, hb⟩ := dropR_inv h2
 have h4 := appCh_inv (appCh_inv h3)
 refine ⟨_, h4, x1.trans x2, fun {w0 φ w p o arr fz} hρ hg hid hl hp hc hlen => ?_⟩
 obtain ⟨a1, a2, a3⟩ := ha ρ (hρ.of_ext x2)
 obtain ⟨e1, e2, e3⟩ := he ρ (by rw [← x2.rg]; exact hρ.rg)
 obtain ⟨b1, b2, b3⟩ := hb ρ hρ
 have hle := hc.le
 have hsz := hc.size
 have e4 : (e.ev ρ).toNat = (off.ev ρ).toNat + (n.ev ρ).toNat := by omega
 obtain ⟨w', arr', r1, r2, r3, r4, r5, r6⟩ := storeCells_run (P := P) (g := p.blk) (o := p.sh + (off.ev ρ).toNat) (bytV (ropeZ ρ cs)) 0 w arr hc.blk (by rw [bytV_len, hlen]; omega) (by rw [hsz]; exact hc.fr) (bytV_one _)
 have hall : ropeZ ρ (a ++ (cs ++ b)) = (ropeZ ρ ws).take (off.ev ρ).toNat ++ (ropeZ ρ cs ++ (ropeZ ρ ws).drop (e.ev ρ).toNat) := by rw [ropeZ_app, ropeZ_app, a3, b3]
 have hal : (ropeZ ρ (a ++ (cs ++ b))).length = (ropeZ ρ ws).length := by
  rw [hall, List.length_append, List.length_append, List.length_take, List.length_drop, hlen]
  omega
 refine ⟨w', r1, hg.toRope hid hl hp r5 (arr := arr') (fz := fz) ⟨r2, by rw [r3, hsz], by rw [hal]; exact hle, fun hr => ?_, hc.es, hc.e1, hc.fr, fun i z hz => ?_⟩⟩
 ·obtain ⟨q1, q2, q3, q4⟩ := hc.fix hr
  exact ⟨q1, by rw [hal]; exact q2, q3, q4⟩
 ·have h7 := r4 (p.sh + i)
  simp only [Nat.add_zero, bytV_len, hlen] at h7
  rw [h7]
  rw [hall] at hz
  by_cases c1 : i < (off.ev ρ).toNat
  ·rw [if_neg (by omega)]
   rw [List.getElem?_append_left (by rw [List.length_take]; omega), List.getElem?_take, if_pos c1] at hz
   exact hc.cell i z hz
  ·rw [List.getElem?_append_right (by rw [List.length_take]; omega), List.length_take, Nat.min_eq_left a2] at hz
   by_cases c2 : i < (off.ev ρ).toNat + (n.ev ρ).toNat
   ·rw [if_pos (by omega)]
    rw [List.getElem?_append_left (by rw [hlen]; omega)] at hz
    rw [show p.sh + i - (p.sh + (off.ev ρ).toNat) = i - (off.ev ρ).toNat by omega]
    exact bytV_get hz
   ·rw [if_neg (by omega)]
    rw [List.getElem?_append_right (by rw [hlen]; omega), List.getElem?_drop, hlen, e4, show (off.ev ρ).toNat + (n.ev ρ).toNat + (i - (off.ev ρ).toNat - (n.ev ρ).toNat) = i by omega] at hz
    exact hc.cell i z hz
theorem wrtR_sound {s : St} {pc : PC} {id : Nat} {off n : SI} {cs : List Ch} {κ : St → R} (hD : wrtR P s pc id off n cs κ ∈ D) : ∃ s', κ s' ∈ D ∧ PcExt pc s'.pc ∧ ∀ {w0 φ w p}, Holds ρ s'.pc → Gm P ρ w0 φ s w → φ[id]? = some p → (ropeZ ρ cs).length = (n.ev ρ).toNat →
  ∃ w', (storeCells ⟨p.blk, p.sh + (off.ev ρ).toNat, none⟩ (bytV (ropeZ ρ cs))).run P w = .ok () w' ∧ Gm P ρ w0 φ s' w' := by
 obtain ⟨o, ho, h1⟩ := optK_inv hD
 cases o with
 | rope ws T r =>
  obtain ⟨s', h2, hx, h3⟩ := wrtC_sound (P := P) (ρ := ρ) (show wrtC s pc id off n cs ws T r κ ∈ D from h1)
  refine ⟨s', h2, hx, fun {w0 φ w p} hρ hg hp hl => ?_⟩
  obtain ⟨p', arr, fz, hp', hc⟩ := hg.hp.obj _ _ ho
  rw [hp] at hp'; cases hp'
  exact h3 hρ hg ho rfl hp hc hl
 | cells m c d T r =>
  obtain ⟨h1b, h2⟩ := brec_inv (show Bool.rec (motive := fun _ => R) (.fail 455) (cellR c d (nat_lit 0) m fun ws => wrtC s pc id off n cs ws T r κ) (one1 P T r) ∈ D from h1)
  obtain ⟨ws, h3, hlen, hby⟩ := cellR_inv h2
  obtain ⟨s', h4, hx, h5⟩ := wrtC_sound (P := P) (ρ := ρ) h3
  refine ⟨s', h4, hx, fun {w0 φ w p} hρ hg hp hl => ?_⟩
  obtain ⟨p', arr, fz, hp', hc⟩ := hg.hp.obj _ _ ho
  rw [hp] at hp'; cases hp'
  have hby := hby hc (by show 0 + m ≤ m; omega)
  have e1 : p.es = 1 := by
   cases hr : r with
   | false => exact (hc.fix hr).2.2.2
   | true =>
    have h6 := (hc.es hr).1
    rw [hr] at h1b
    have h1b : (match sizeA P T with | some n => Nat.beq n (nat_lit 1) | none => false) = true := h1b
    rw [h6] at h1b
    have h1b : Nat.beq p.es 1 = true := h1b
    rw [natBeq] at h1b
    exact of_decide_eq_true h1b
  refine h5 hρ hg ho rfl hp ⟨hc.blk, hc.size, by rw [hlen]; exact hc.le, fun hr => ?_, hc.es, e1, hc.fr, fun i z hz => ?_⟩ hl
  ·obtain ⟨q1, q2, q3, q4⟩ := hc.fix hr
   exact ⟨q1, by rw [hlen]; exact q2, q3, q4⟩
  ·have := hby i z hz
   simp only [World.cell?, hc.blk] at this
   exact this
 | map _ _ => cases h1
 | iter _ _ _ _ => cases h1
 | dead => cases h1
theorem avsB_eq : ∀ l : List SI, avsB l = l.map (AV.int .u8)
 | [] => rfl
 | e :: l => by show AV.int .u8 e :: avsB l = _; rw [avsB_eq l]; rfl
theorem appSI_inv : ∀ {a b : List SI} {κ : List SI → R}, appSI a b κ ∈ D → κ (a ++ b) ∈ D
 | [], b, κ, h => h
 | c :: a, b, κ, h => appSI_inv (κ := fun r => κ (c :: r)) h
theorem bsOf_inv : ∀ {cs : List Ch} {no : R} {κ : List SI → R}, bsOf cs no κ ∈ D → no ∈ D ∨ ∃ l, κ l ∈ D ∧ ∀ ρ, ropeZ ρ cs = l.map (SI.ev ρ)
 | [], no, κ, h => .inr ⟨[], h, fun _ => rfl⟩
 | c :: cs, no, κ, h => by
  cases c with
  | fil n v => exact .inl h
  | row a o n => exact .inl h
  | bs l =>
   rcases bsOf_inv (cs := cs) (κ := fun r => appSI l r κ) h with h1 | ⟨r, h1, h2⟩
   ·exact .inl h1
   ·exact .inr ⟨l ++ r, appSI_inv h1, fun ρ => by rw [ropeZ_cons, h2, List.map_append]; rfl⟩
theorem concL_bs {φ : List Pl} : ∀ l : List SI, concL φ ρ (l.map (AV.int .u8)) = some (bytV (l.map (SI.ev ρ)))
 | [] => rfl
 | e :: l => by
  simp only [List.map_cons, concL, conc, Option.bind_some, concL_bs l, Option.map_some]
  rfl
theorem wrtL_sound {s : St} {pc : PC} {id off : Nat} {n : SI} {cs : List Ch} {κ : St → R} (hD : wrtL P s pc id off n cs κ ∈ D) : ∃ s', κ s' ∈ D ∧ PcExt pc s'.pc ∧ ∀ {w0 φ w p}, Holds ρ s'.pc → Gm P ρ w0 φ s w → φ[id]? = some p → (ropeZ ρ cs).length = (n.ev ρ).toNat →
  ∃ w', (storeCells ⟨p.blk, p.sh + ((natS off).ev ρ).toNat, none⟩ (bytV (ropeZ ρ cs))).run P w = .ok () w' ∧ Gm P ρ w0 φ s' w' := by
 rcases bsOf_inv hD with h | ⟨l, h1, hl⟩
 ·exact wrtR_sound h
 rcases brec_cases h1 with ⟨_, h2⟩ | ⟨_, h2⟩
 ·exact wrtR_sound h2
 ·obtain ⟨s', h3, hpc, h4⟩ := stP_sound (P := P) (ρ := ρ) h2
  refine ⟨s', h3, by rw [hpc]; exact .refl _, fun {w0 φ w p} hρ hg hp hn => ?_⟩
  rw [hl]
  exact h4 (hg.pc pc) hp (by rw [avsB_eq]; exact concL_bs l)
theorem first0 {w : World} {p : Option Addr} {m c : Nat} : (Builtin.firstCells 1 0 (.slice p m c)).run P w = .ok #[] w := by
 cases p <;> simp [Builtin.firstCells, loadCells, loadCellsFrom]
theorem copy_run {T e : TypeId} {Ts : Array TypeId} (hT : Ts[0]? = some T) (hu : P.underlying T = some (.slice e)) (hs : sizeA P e = some 1) {w w' : World} {p : Option Addr} {dl c : Nat} {bp : Option Addr} {m bc k : Nat} (hk : k = min m dl) {vs : List Value} (h1 : (Builtin.firstCells 1 k (.slice bp m bc)).run P w = .ok vs.toArray w) (h2 : (match p with | some q => storeCells q vs | none => pure ()).run P w = .ok () w') :
  ∀ R', (Builtin.copy_ Ts R' #[.slice p dl c, .slice bp m bc]).run P w = .ok (.int .i64 (k : Nat)) w' := by
 intro R'
 subst hk
 have hl : (Builtin.lenOf (.slice bp m bc)).run P w = .ok m w := by simp [Builtin.lenOf]
 unfold Builtin.copy_
 simp only [hT, List.getElem?_toArray, List.getElem?_cons_zero, List.getElem?_cons_succ, Sem.run_bind, run_underlying hu, Result.andThen_ok, hl, run_size hs]
 rw [show Nat.min m dl = min m dl from rfl, h1]
 simp only [Result.andThen_ok]
 cases p with
 | none =>
  simp only [Sem.run_pure, Result.ok.injEq, true_and] at h2
  subst h2
  rfl
 | some q =>
  simp only [Sem.run_bind]
  simp only at h2
  rw [h2]; rfl
theorem copyR_sound {T : TypeId} {s : St} {d x : AV} {Ts : Array TypeId} {κ : AV → St → R} (hT : Ts[0]? = some T) (hD : copyR P T s d x κ ∈ D) : ∃ v s', κ v s' ∈ D ∧ PcExt s.pc s'.pc ∧ ∀ {w0 φ w a b}, Holds ρ s'.pc → Gm P ρ w0 φ s w → conc φ ρ d = some a → conc φ ρ x = some b → ∃ y w', conc φ ρ v = some y ∧ Gm P ρ w0 φ s' w' ∧ ∀ R', (Builtin.copy_ Ts R' #[a, b]).run P w = .ok y w' := by
 obtain ⟨t, ht, h1⟩ := optK_inv hD
 split at h1
 rotate_left
 ·cases h1
 rename_i e sz
 obtain ⟨hu, hs⟩ := ixOf_sli ht
 obtain ⟨hs1, h2⟩ := brec_inv h1
 rw [natBeq, decide_eq_true_eq] at hs1
 subst hs1
 obtain ⟨lx, h3, hlx⟩ := lenS_inv h2
 obtain ⟨ld, h4, hld⟩ := lenS_inv h3
 obtain ⟨b, pc1, h5, x1, hle⟩ := leD_inv h4
 generalize hn : (Bool.rec (motive := fun _ => SI) ld lx b : SI) = n at h5
 -- the number of bytes
 have hmin : ∀ {pc2 : PC}, PcExt pc1 pc2 → ∀ {φ : List Pl} {av bv : Value}, Holds ρ pc2 → conc φ ρ d = some av → conc φ ρ x = some bv → 0 ≤ n.ev ρ ∧ ∃ p dl c bp m bc, av = .slice p dl c ∧ bv = .slice bp m bc ∧ (n.ev ρ).toNat = min m dl ∧ m = (lx.ev ρ).toNat := by
  intro pc2 x2 φ av bv hρ ha hb
  have hr : RgOk ρ s.pc.rg := by
   have := hρ.rg
   rw [x2.rg, x1.rg] at this
   exact this
  obtain ⟨q1, bp, m, bc, rfl, hm⟩ := hlx hr hb
  obtain ⟨q2, p, dl, c, rfl, hdl⟩ := hld hr ha
  have q3 := hle ρ (hρ.of_ext x2)
  cases b with
  | true =>
   have hn : lx = n := hn
   subst hn
   have := q3.1 rfl
   exact ⟨q1, p, dl, c, bp, m, bc, rfl, rfl, by omega, hm⟩
  | false =>
   have hn : ld = n := hn
   subst hn
   have : ¬ lx.ev ρ ≤ ld.ev ρ := fun hh => by cases q3.2 hh
   exact ⟨q2, p, dl, c, bp, m, bc, rfl, rfl, by omega, hm⟩
 have h5 : copyN P s pc1 d x n κ ∈ D := h5
 rcases brec_cases h5 with ⟨hz, h6⟩ | ⟨_, h6⟩
 ·refine ⟨_, _, h6, x1, fun {w0 φ w a b'} hρ hg ha hb => ?_⟩
  obtain ⟨q0, p, dl, c, bp, m, bc, rfl, rfl, q1, _⟩ := hmin (.refl _) hρ ha hb
  have hz0 := isZ_ev hz ρ
  refine ⟨.int .i64 0, w, rfl, hg.pc _, ?_⟩
  exact copy_run hT hu hs (k := 0) (by omega) (vs := []) first0 (by cases p <;> rfl)
 ·obtain ⟨cs, pc2, h7, x2, hcs⟩ := readR_sound (P := P) (ρ := ρ) h6
  obtain ⟨cs', pc3, h8, x3, htk⟩ := takeR_inv h7
  have fin : ∀ {id : Nat} {off : SI} {κ' : St → R}, wrtR P s pc3 id off n cs' κ' ∈ D → (∀ {φ : List Pl} {a : Value}, conc φ ρ d = some a → 0 ≤ ρ 0 → True) → True := fun _ _ => trivial
  have go : ∀ {id : Nat} {off : SI} {s' : St}, PcExt pc3 s'.pc → (∀ {w0 φ w p}, Holds ρ s'.pc → Gm P ρ w0 φ s w → φ[id]? = some p → (ropeZ ρ cs').length = (n.ev ρ).toNat → ∃ w', (storeCells ⟨p.blk, p.sh + (off.ev ρ).toNat, none⟩ (bytV (ropeZ ρ cs'))).run P w = .ok () w' ∧ Gm P ρ w0 φ s' w') →
    (∀ {φ : List Pl} {a : Value}, conc φ ρ d = some a → ∃ p, φ[id]? = some p ∧ ((∃ dl c, a = .slice (some ⟨p.blk, p.sh + (off.ev ρ).toNat, none⟩) dl c) ∨ ∃ q c, a = .slice q 0 c)) →
    ∀ {w0 φ w a b'}, Holds ρ s'.pc → Gm P ρ w0 φ s w → conc φ ρ d = some a → conc φ ρ x = some b' → ∃ y w', conc φ ρ (.int .i64 n) = some y ∧ Gm P ρ w0 φ s' w' ∧ ∀ R', (Builtin.copy_ Ts R' #[a, b']).run P w = .ok y w' := by
   intro id off s' x4 hw hpl w0 φ w a b' hρ hg ha hb
   have hρ3 := hρ.of_ext x4
   obtain ⟨q0, p, dl, c, bp, m, bc, ea, rfl, q1, q2⟩ := hmin (x2.trans (x3.trans x4)) hρ ha hb
   obtain ⟨t1, t2, t3⟩ := htk ρ hρ3
   obtain ⟨a', m', c', e1, e2, e3⟩ := hcs (hρ3.of_ext x3) hg hb
   cases e1
   have hk : (n.ev ρ).toNat ≤ m := by omega
   have hfc := e3 _ hk w rfl
   have hlen : (ropeZ ρ cs').length = (n.ev ρ).toNat := by rw [t3, List.length_take]; omega
   rw [← t3] at hfc
   obtain ⟨pp, hp, hcase⟩ := hpl ha
   obtain ⟨w', r1, r2⟩ := hw hρ hg hp hlen
   have hval : conc φ ρ (.int .i64 n) = some (.int .i64 ((n.ev ρ).toNat : Int)) := by
    simp only [conc, Option.some.injEq]
    congr 1
    omega
   rcases hcase with ⟨dl', c', rfl⟩ | ⟨q, c', rfl⟩
   ·cases ea
    exact ⟨_, w', hval, r2, copy_run hT hu hs q1 hfc r1⟩
   ·cases ea
    have hz0 : (n.ev ρ).toNat = 0 := by omega
    have hnil : ropeZ ρ cs' = [] := List.length_eq_zero_iff.1 (by omega)
    rw [hnil] at r1 hfc
    have hww : w' = w := by
     have : (Result.ok () w : Result Unit) = .ok () w' := r1
     cases this; rfl
    subst hww
    exact ⟨_, w', hval, r2, copy_run hT hu hs q1 hfc (by first | (cases q <;> rfl) | (cases p <;> rfl))⟩
  split at h8
  ·rename_i id off len cap _
   obtain ⟨s', h9, x4, hw⟩ := wrtL_sound (P := P) (ρ := ρ) h8
   refine ⟨_, s', h9, ((x1.trans x2).trans x3).trans x4, fun {w0 φ w a b'} => go (off := natS off) x4 hw fun {φ a} ha => ?_⟩
   obtain ⟨p, hp, rfl⟩ := conc_sl ha
   exact ⟨p, hp, .inl ⟨_, _, rfl⟩⟩
  ·rename_i id o0 off len cap _
   obtain ⟨s', h9, x4, hw⟩ := wrtR_sound (P := P) (ρ := ρ) h8
   refine ⟨_, s', h9, ((x1.trans x2).trans x3).trans x4, fun {w0 φ w a b'} => go (off := off) x4 hw fun {φ a} ha => ?_⟩
   have hpl : ∃ p, φ[id]? = some p := by
    simp only [conc, Option.map_eq_some_iff] at ha
    obtain ⟨p, hp, _⟩ := ha
    exact ⟨p, hp⟩
   obtain ⟨p, hp⟩ := hpl
   refine ⟨p, hp, ?_⟩
   cases cap with
   | some c => rw [ssl_some hp] at ha; cases ha; exact .inl ⟨_, _, rfl⟩
   | none =>
    rw [ssl_none hp] at ha
    cases ha
    split
    ·exact .inr ⟨_, _, rfl⟩
    ·exact .inl ⟨_, _, rfl⟩
  ·cases h8
theorem copyX_sound {T : TypeId} {s : St} {d x : AV} {Ts : Array TypeId} {κ : AV → St → R} (hT : Ts[0]? = some T) (hD : copyX P T s d x κ ∈ D) : ∃ v s', κ v s' ∈ D ∧ PcExt s.pc s'.pc ∧ ∀ {w0 φ w a b}, Holds ρ s'.pc → Gm P ρ w0 φ s w → conc φ ρ d = some a → conc φ ρ x = some b → ∃ y w', conc φ ρ v = some y ∧ Gm P ρ w0 φ s' w' ∧ ∀ R', (Builtin.copy_ Ts R' #[a, b]).run P w = .ok y w' := by
 rcases brec_cases hD with ⟨_, h1⟩ | ⟨_, h1⟩
 ·exact copyR_sound hT h1
 ·obtain ⟨v, s', h2, hpc, h3⟩ := copy_sound (P := P) (ρ := ρ) hT h1
  exact ⟨v, s', h2, by rw [hpc]; exact .refl _, fun _ hg ha hb => h3 hg ha hb⟩
theorem makeX_sound {T : TypeId} {x y : AV} {s : St} {κ : AV → St → R} (hD : makeX P T x y s κ ∈ D) : ∃ v s', κ v s' ∈ D ∧ s'.pc = s.pc ∧ ∀ {w0 φ w a b}, RgOk ρ s.pc.rg → Gm P ρ w0 φ s w → conc φ ρ x = some a → conc φ ρ y = some b → ∃ φ' z w', φ <+: φ' ∧ conc φ' ρ v = some z ∧ Gm P ρ w0 φ' s' w' ∧ (Instr.makeSlice T a b).run P w = .ok z w' := by
 rcases brec_cases hD with ⟨_, h1⟩ | ⟨_, h1⟩
 ·obtain ⟨v, s', h2, hpc, h3⟩ := makeS_sound (P := P) (ρ := ρ) h1
  exact ⟨v, s', h2, hpc, fun _ hg ha hb => h3 hg ha hb⟩
 ·exact makeR_sound h1
theorem store_into {s : St} {w : World} {w0 : Base} {φ : List Pl} (hg : Gm P ρ w0 φ s w) {id : Nat} {o : AObj} (hid : s.hp.get id = some o) (hl : live o = true) {p : Pl} (hp : φ[id]? = some p) {arr : Array Value} {T : TypeId} {fz : Nat × Nat} (hblk : w.heap[p.blk]? = some (.cells arr T fz)) (hsz : arr.size = p.sz) (hfr : ∀ i, i < p.sz → ¬ (fz.1 ≤ i ∧ i < fz.2)) {q : Nat} {xs : List Value} (h1 : ∀ v ∈ xs, v.oneCell' = true) (hle : q + xs.length ≤ p.sz) :
  ∃ w' arr', (storeCells ⟨p.blk, q, none⟩ xs).run P w = .ok () w' ∧ Gm P ρ w0 φ (killS s id) w' ∧ w'.heap[p.blk]? = some (.cells arr' T fz) ∧ arr'.size = p.sz ∧ (∀ j, arr'[j]? = if q ≤ j ∧ j < q + xs.length then xs[j - q]? else arr[j]?) ∧ p.blk < w'.heap.size := by
 obtain ⟨w', arr', r1, r2, r3, r4, r5, r6⟩ := storeCells_run (P := P) (g := p.blk) (o := q) xs 0 w arr hblk (by omega) (by rw [hsz]; exact hfr) h1
 have hlo := hg.lo id p hp
 refine ⟨w', arr', r1, (hg.kill hid).world ?_ (by rw [r6]; exact Nat.le_refl _) (fun i o' q' hi hl' hq => ?_) (fun x hx hlt hne => r5.block x.1 hlt (by simp only [List.mem_singleton]; exact fun e => hne id p hp e.symm)), r2, by rw [r3, hsz], fun j => by simpa using r4 j, by rw [r6]; exact hlo.2⟩
 ·refine hg.kp.trans' r5 (fun _ h => .inl h) fun i hi => .inr ?_
  simp only [List.mem_singleton] at hi
  subst hi
  exact hlo.1
 ·refine r5.block q'.blk (hg.lo i q' hq).2 ?_
  simp only [List.mem_singleton]
  exact hg.kill_free hid hl hp i o' q' hi hl' hq
theorem growR_sound {e : TypeId} (hs : sizeA P e = some 1) (hb1 : bytesA P e = some 1) (hz : zeroA P e = some (.int .u8 (.lit (.ofNat 0)))) {s : St} {m : SI} {cs : List Ch} {κ : AV → St → R} (hD : growR s e m cs κ ∈ D) : ∃ v s', κ v s' ∈ D ∧ s'.pc = s.pc ∧
  (∀ {w0 : Base} {φ : List Pl} {w : World} {Ts T sCap p y sLen n} {zx zy : List Int}, RgOk ρ s.pc.rg → Gm P ρ w0 φ s w → Ts[0]? = some T → notIntT P (Ts[1]?) = true → P.underlying T = some (.slice e) → (Builtin.lenOf y).run P w = .ok n w → (m.ev ρ).toNat = sLen + n → sCap < sLen + n → ropeZ ρ cs = zx ++ zy → zx.length = sLen → zy.length = n →
   (∀ w' : World, w'.heap = w.heap → (Builtin.firstCells 1 sLen (.slice p sLen sCap)).run P w' = .ok (bytV zx).toArray w') → (∀ w' : World, w'.heap = w.heap → (Builtin.firstCells 1 n y).run P w' = .ok (bytV zy).toArray w') →
   ∃ φ' z w', φ <+: φ' ∧ conc φ' ρ v = some z ∧ Gm P ρ w0 φ' s' w' ∧ ∀ R', (Builtin.append_ Ts R' #[.slice p sLen sCap, y]).run P w = .ok z w') ∧
  (∀ {w0 : Base} {φ : List Pl} {w : World} {pl : Pl} {q : Nat} {arr : Array Value} {fz : Nat × Nat}, Gm P ρ w0 φ s w → pl.es = 1 → w0.w0.heap.size ≤ pl.blk → pl.blk < w.heap.size → (∀ i o' q, s.hp.get i = some o' → live o' = true → φ[i]? = some q → q.blk ≠ pl.blk) → w.heap[pl.blk]? = some (.cells arr e fz) → arr.size = pl.sz →
   0 < (m.ev ρ).toNat → (ropeZ ρ cs).length = (m.ev ρ).toNat → pl.sh + q + (m.ev ρ).toNat ≤ pl.sz → (∀ i, i < pl.sz → ¬ (fz.1 ≤ i ∧ i < fz.2)) → (∀ i z, (ropeZ ρ cs)[i]? = some z → arr[pl.sh + q + i]? = some (.int .u8 z)) → (∀ x ∈ w0.fr, pl.blk ≠ x.1) →
   ∃ φ', φ <+: φ' ∧ conc φ' ρ v = some (.slice (some ⟨pl.blk, pl.sh + q, none⟩) (m.ev ρ).toNat (pl.room q)) ∧ Gm P ρ w0 φ' s' w) := by
 obtain ⟨hlt, h1⟩ := brec_inv hD
 obtain ⟨s', h2, hpc, h3⟩ := newP_sound (P := P) (ρ := ρ) h1
 refine ⟨_, s', h2, hpc, fun {w0 φ w Ts T sCap p y sLen n zx zy} hr hg hT hn1 hu hlenY hm hcap hcs hzx hzy ho hnw => ?_, fun {w0 φ w pl q arr fz} hg hes hlo hhi hfree hb hsz hpos hlen hle hfr hc hfo => ?_⟩
 ·obtain ⟨l1, l2⟩ := ltB_ok hlt hr
  have hok : growOk P e 1 (sLen + n) = true := growOk_byte hb1 hz (by omega)
  obtain ⟨c, rest, q1, q2, q3⟩ := append_new hT hn1 hu hs hlenY rfl hcap hok (bytV zx).toArray (bytV zy).toArray ho hnw (by simp [bytV, hzx]) (by simp [bytV, hzy])
  let w1 : World := { w with drawn := w.drawn + 1 }
  have hg1 : Gm P ρ w0 φ s w1 := hg.world (hg.kp.drew) (Nat.le_refl _) (fun _ _ _ _ _ _ => rfl) (fun _ _ _ _ => rfl)
  have hro : RopeOk P ρ { w1 with heap := w1.heap.push (.cells ((bytV zx).toArray ++ (bytV zy).toArray ++ rest) e) } ⟨w.heap.size, 0, c * 1, 1⟩ ((bytV zx).toArray ++ (bytV zy).toArray ++ rest) (0, 0) cs e true := by
   refine ⟨by simp [w1], q2, ?_, (fun h => by cases h), fun _ => ⟨hs, Nat.one_pos⟩, rfl, (fun i _ h => by simp at h), fun i z hi => ?_⟩
   ·rw [hcs, List.length_append]
    show 0 + (zx.length + zy.length) ≤ c * 1
    omega
   ·rw [hcs] at hi
    have h7 : (bytV (zx ++ zy))[i]? = some (.int .u8 z) := bytV_get hi
    have h8 : i < (bytV (zx ++ zy)).length := (List.getElem?_eq_some_iff.1 h7).1
    rw [← Array.getElem?_toList, Array.toList_append, Array.toList_append]
    simp only [Nat.zero_add]
    rw [show (bytV zx).toArray.toList ++ (bytV zy).toArray.toList = bytV (zx ++ zy) by simp [bytV], List.getElem?_append_left h8]
    exact h7
  obtain ⟨r1, r2⟩ := h3 (hg1.push (.cells ((bytV zx).toArray ++ (bytV zy).toArray ++ rest) e)) (p := ⟨w.heap.size, 0, c * 1, 1⟩) hg.kp.size (by simp [w1]) (fun i o' q hi hl hq he => by have := (hg.lo i q hq).2; simp only at he; omega) (fun x hx => Nat.ne_of_gt (hg.fr x hx).1) hro
  refine ⟨_, _, _, pre_one _ _, ?_, r1, q3⟩
  have hnz : ¬ ((m.ev ρ).toNat = 0 ∧ (⟨w.heap.size, 0, c * 1, 1⟩ : Pl).room (zeroS.ev ρ).toNat = 0) := fun hh => by
   have := hh.1
   omega
  rw [ssl_none r2, if_neg hnz]
  have e0 : (zeroS.ev ρ).toNat = 0 := rfl
  simp only [e0, Pl.room, Nat.add_zero, Nat.sub_zero, hm, Nat.mul_one, Nat.div_one]
 ·have hro : RopeOk P ρ w ⟨pl.blk, pl.sh + q, pl.sz, pl.es⟩ arr fz cs e true := by
   refine ⟨hb, hsz, by rw [hlen]; exact hle, (fun h => by cases h), fun _ => ⟨by rw [hes]; exact hs, by rw [hes]; exact Nat.one_pos⟩, hes, hfr, fun i z hi => hc i z hi⟩
  obtain ⟨r1, r2⟩ := h3 hg (p := ⟨pl.blk, pl.sh + q, pl.sz, pl.es⟩) hlo hhi hfree hfo hro
  refine ⟨_, pre_one _ _, ?_, r1⟩
  have hnz : ¬ ((m.ev ρ).toNat = 0 ∧ (⟨pl.blk, pl.sh + q, pl.sz, pl.es⟩ : Pl).room (zeroS.ev ρ).toNat = 0) := fun hh => by
   have := hh.1
   omega
  rw [ssl_none r2, if_neg hnz]
  have e0 : (zeroS.ev ρ).toNat = 0 := rfl
  simp only [e0, Pl.room, Nat.add_zero]
theorem growX_sound {e : TypeId} (hs : sizeA P e = some 1) (hb1 : bytesA P e = some 1) (hz : zeroA P e = some (.int .u8 (.lit (.ofNat 0)))) {s : St} {m : SI} {cs : List Ch} {κ : AV → St → R} (hD : growX P s e m cs κ ∈ D) : ∃ v s', κ v s' ∈ D ∧ s'.pc = s.pc ∧
  (∀ {w0 : Base} {φ : List Pl} {w : World} {Ts T sCap p y sLen n} {zx zy : List Int}, RgOk ρ s.pc.rg → Gm P ρ w0 φ s w → Ts[0]? = some T → notIntT P (Ts[1]?) = true → P.underlying T = some (.slice e) → (Builtin.lenOf y).run P w = .ok n w → (m.ev ρ).toNat = sLen + n → sCap < sLen + n → ropeZ ρ cs = zx ++ zy → zx.length = sLen → zy.length = n →
   (∀ w' : World, w'.heap = w.heap → (Builtin.firstCells 1 sLen (.slice p sLen sCap)).run P w' = .ok (bytV zx).toArray w') → (∀ w' : World, w'.heap = w.heap → (Builtin.firstCells 1 n y).run P w' = .ok (bytV zy).toArray w') →
   ∃ φ' z w', φ <+: φ' ∧ conc φ' ρ v = some z ∧ Gm P ρ w0 φ' s' w' ∧ ∀ R', (Builtin.append_ Ts R' #[.slice p sLen sCap, y]).run P w = .ok z w') ∧
  (∀ {w0 : Base} {φ : List Pl} {w : World} {pl : Pl} {q : Nat} {arr : Array Value} {fz : Nat × Nat}, Gm P ρ w0 φ s w → pl.es = 1 → w0.w0.heap.size ≤ pl.blk → pl.blk < w.heap.size → (∀ i o' q, s.hp.get i = some o' → live o' = true → φ[i]? = some q → q.blk ≠ pl.blk) → w.heap[pl.blk]? = some (.cells arr e fz) → arr.size = pl.sz →
   0 < (m.ev ρ).toNat → (ropeZ ρ cs).length = (m.ev ρ).toNat → pl.sh + q + (m.ev ρ).toNat ≤ pl.sz → (∀ i, i < pl.sz → ¬ (fz.1 ≤ i ∧ i < fz.2)) → (∀ i z, (ropeZ ρ cs)[i]? = some z → arr[pl.sh + q + i]? = some (.int .u8 z)) → (∀ x ∈ w0.fr, pl.blk ≠ x.1) →
   ∃ φ', φ <+: φ' ∧ conc φ' ρ v = some (.slice (some ⟨pl.blk, pl.sh + q, none⟩) (m.ev ρ).toNat (pl.room q)) ∧ Gm P ρ w0 φ' s' w) := by
 rcases bsOf_inv hD with h | ⟨l, h1, hl⟩
 ·exact growR_sound hs hb1 hz h
 rw [forceN_eq] at h1
 rcases brec_cases h1 with ⟨hm, h2⟩ | ⟨_, h2⟩
 rotate_left
 ·exact growR_sound hs hb1 hz h2
 have hmn : m = natS (lenSI l) := SI.beq_eq _ _ hm
 have hlen : lenSI l = l.length := lenSI_eq l
 rw [hlen] at hmn h2
 have hme : (m.ev ρ).toNat = l.length := by rw [hmn]; rfl
 obtain ⟨hok, v0, s0, h3, hpc, _, hin⟩ := grow_new (P := P) (ρ := ρ) (sLen := 0) (n := l.length) h2 hs (by omega)
 -- what it is
 have hform : κ (.sl s.nx 0 l.length none) ⟨s.hp.set s.nx (.cells (lenL (avsB l)) (trOf (avsB l)) none e true), s.nx + 1, s.pc⟩ ∈ D := by
  have h4 : Bool.rec (motive := fun _ => R) (.fail 127) (newL s ([] ++ avsB l) e true fun id s => κ (.sl id (nat_lit 0) l.length none) s) (growOk P e 1 l.length) ∈ D := h2
  rw [hok] at h4
  have h5 : Bool.rec (motive := fun _ => R) (.fail 100) (forceN (lenL ([] ++ avsB l)) fun n => newK s n (trOf ([] ++ avsB l)) none e true fun id s => κ (.sl id (nat_lit 0) l.length none) s) (allOne ([] ++ avsB l)) ∈ D := h4
  obtain ⟨_, h6⟩ := brec_inv h5
  rw [forceN_eq] at h6
  unfold newK at h6
  simp only [forceN_eq] at h6
  exact h6
 have hone : allOne (avsB l) = true := allOne_of fun v hv => by
  rw [avsB_eq] at hv
  obtain ⟨x, _, rfl⟩ := List.mem_map.1 hv
  rfl
 have hmem : ∀ sLen, sLen ≤ l.length → growK P s e 1 l.length (avsB (l.take sLen)) (avsB (l.drop sLen)) R.done ∈ Dn.mk ρ (.sl s.nx 0 l.length none) ⟨s.hp.set s.nx (.cells (lenL (avsB l)) (trOf (avsB l)) none e true), s.nx + 1, s.pc⟩ := by
  intro sLen hle
  have hcat : avsB (l.take sLen) ++ avsB (l.drop sLen) = avsB l := by rw [avsB_eq, avsB_eq, avsB_eq, ← List.map_append, List.take_append_drop]
  show Bool.rec (motive := fun _ => R) (.fail 127) (newL s (avsB (l.take sLen) ++ avsB (l.drop sLen)) e true fun id s => R.done (.sl id (nat_lit 0) l.length none) s) (growOk P e 1 l.length) ∈ (_ : Dn)
  rw [hok, hcat]
  show Bool.rec (motive := fun _ => R) (.fail 100) (forceN (lenL (avsB l)) _) (allOne (avsB l)) ∈ (_ : Dn)
  rw [hone]
  show forceN (lenL (avsB l)) _ ∈ (_ : Dn)
  rw [forceN_eq]
  unfold newK
  simp only [forceN_eq]
  exact ⟨rfl, rfl⟩
 have hconc : ∀ {φ : List Pl} (k : List SI), concL φ ρ (avsB k) = some (bytV (k.map (SI.ev ρ))) := fun {φ} k => by rw [avsB_eq]; exact concL_bs k
 refine ⟨_, _, hform, rfl, fun {w0 φ w Ts T sCap p y sLen n zx zy} hr hg hT hn1 hu hlenY hm' hcap hcs hzx hzy ho hnw => ?_, fun {w0 φ w pl q arr fz} hg hes hlo hhi hfree hb hsz hpos hlen' hle hfr hc hfo => ?_⟩
 ·have hsum : l.length = sLen + n := by omega
  obtain ⟨_, v1, s1, h7, hpc1, hnew, _⟩ := grow_new (P := P) (ρ := ρ) (sLen := sLen) (n := n) (hmem sLen (by omega)) hs hsum
  obtain ⟨rfl, rfl⟩ := h7
  have hx : zx = (l.take sLen).map (SI.ev ρ) := by
   rw [hl] at hcs
   have := congrArg (List.take sLen) hcs
   rw [← hzx, List.take_left, hzx, ← List.map_take] at this
   exact this.symm
  have hy : zy = (l.drop sLen).map (SI.ev ρ) := by
   rw [hl] at hcs
   have := congrArg (List.drop sLen) hcs
   rw [← hzx, List.drop_left, hzx, ← List.map_drop] at this
   exact this.symm
  refine hnew hg hT hn1 hu hlenY (by omega) _ _ ho hnw (by rw [hx]; exact hconc _) (by rw [hy]; exact hconc _) (by rw [avsB_eq, List.length_map, List.length_take]; omega) (by rw [avsB_eq, List.length_map, List.length_drop]; omega)
 ·obtain ⟨_, v1, s1, h7, hpc1, _, hin1⟩ := grow_new (P := P) (ρ := ρ) (sLen := 0) (n := l.length) (hmem 0 (Nat.zero_le _)) hs (by omega)
  obtain ⟨rfl, rfl⟩ := h7
  have hcat : avsB (l.take 0) ++ avsB (l.drop 0) = avsB l := by rw [avsB_eq, avsB_eq, avsB_eq, ← List.map_append, List.take_append_drop]
  have hal : (avsB l).length = l.length := by rw [avsB_eq, List.length_map]
  rw [hme]
  refine hin1 (xs := bytV (l.map (SI.ev ρ))) hg (by rw [hcat]; exact hconc _) hes hlo hhi hfree hb hsz (by rw [hcat, hal]; omega) hfr (fun i hi => ?_) hfo
  rw [hcat, hal] at hi
  have hz2 : (ropeZ ρ cs)[i]? = some (l[i].ev ρ) := by rw [hl, List.getElem?_map, List.getElem?_eq_getElem hi]; rfl
  rw [hc i _ hz2]
  simp [bytV, hi]
theorem endK_inv {o : AObj} {e : TypeId} {pc : PC} {off len : SI} {κ : PC → R} (hs : sizeA P e = some 1) (hD : endK o e pc off len κ ∈ D) : ∃ pc', κ pc' ∈ D ∧ PcExt pc pc' ∧ ∀ {φ w id p}, Holds ρ pc' → ObjOk P φ ρ w id o → φ[id]? = some p → p.es = 1 ∧ ∃ arr fz, w.heap[p.blk]? = some (.cells arr e fz) ∧ arr.size = p.sz ∧ ∀ i, i < p.sz → ¬ (fz.1 ≤ i ∧ i < fz.2) := by
 unfold endK at hD
 split at hD
 ·rename_i cs T r
  obtain ⟨hb, h1⟩ := brec_inv hD
  simp only [Bool.and_eq_true, natBeq, decide_eq_true_eq] at hb
  obtain ⟨rfl, rfl⟩ := hb
  obtain ⟨t, h2, _⟩ := totR_inv h1
  obtain ⟨q, h3, _⟩ := plE_inv h2
  obtain ⟨b, pc', h4, hx, _⟩ := leD_inv h3
  obtain ⟨_, h5⟩ := brec_inv h4
  refine ⟨pc', h5, hx, fun {φ w id p} _ ho hp => ?_⟩
  obtain ⟨p', arr, fz, hp', hc⟩ := ho
  rw [hp] at hp'; cases hp'
  exact ⟨hc.e1, arr, fz, hc.blk, hc.size, hc.fr⟩
 ·rename_i n c d T r
  obtain ⟨hb, h1⟩ := brec_inv hD
  simp only [Bool.and_eq_true, natBeq, decide_eq_true_eq] at hb
  obtain ⟨rfl, rfl⟩ := hb
  obtain ⟨q, h3, _⟩ := plE_inv h1
  obtain ⟨b, pc', h4, hx, _⟩ := leD_inv h3
  obtain ⟨_, h5⟩ := brec_inv h4
  refine ⟨pc', h5, hx, fun {φ w id p} _ ho hp => ?_⟩
  obtain ⟨p', arr, fz, hp', hc⟩ := ho
  rw [hp] at hp'; cases hp'
  have h6 := (hc.es rfl).1
  exact ⟨(Option.some.inj (hs.symm.trans h6)).symm, arr, fz, hc.blk, hc.size, hc.fr⟩
 ·cases hD
theorem appT_sound {Ts : Array TypeId} {T e : TypeId} (hT : Ts[0]? = some T) (hn1 : notIntT P (Ts[1]?) = true) (hu : P.underlying T = some (.slice e)) (hs : sizeA P e = some 1) (hb1 : bytesA P e = some 1) (hz : zeroA P e = some (.int .u8 (.lit (.ofNat 0)))) {s : St} {pc : PC} {id : Nat} {off len ny : SI} {cy : List Ch} {κ : AV → St → R} (hD : appT P e s pc id off len ny cy κ ∈ D) :
  ∃ v s', κ v s' ∈ D ∧ PcExt pc s'.pc ∧ ∀ {w0 φ w p bm} {b : Value}, (∀ w' : World, (Builtin.lenOf b).run P w' = .ok bm w') → Holds ρ s'.pc → Gm P ρ w0 φ s w → φ[id]? = some p → bm = (ny.ev ρ).toNat → 0 < (len.ev ρ).toNat + bm → (ropeZ ρ cy).length = bm → (∀ w' : World, w'.heap = w.heap → (Builtin.firstCells 1 bm b).run P w' = .ok (bytV (ropeZ ρ cy)).toArray w') →
   ∀ {A : Option Addr} {L C : Nat}, (A = some ⟨p.blk, p.sh + (off.ev ρ).toNat, none⟩ ∧ L = (len.ev ρ).toNat ∧ C = p.room (off.ev ρ).toNat) ∨ ((len.ev ρ).toNat = 0 ∧ L = 0 ∧ C = 0) →
   ∃ φ' z w', φ <+: φ' ∧ conc φ' ρ v = some z ∧ Gm P ρ w0 φ' s' w' ∧ ∀ R', (Builtin.append_ Ts R' #[.slice A L C, b]).run P w = .ok z w' := by
 obtain ⟨o, ho, h1⟩ := optK_inv hD
 obtain ⟨pc1, h2, x1, hend⟩ := endK_inv (P := P) (ρ := ρ) hs h1
 obtain ⟨cx, pc2, h3, x2, hl, hcx⟩ := readO_inv h2
 obtain ⟨m, h4, hm⟩ := plE_inv h3
 have h5 := appCh_inv h4
 obtain ⟨v, s', h6, hpc, hnew, hin⟩ := growX_sound (ρ := ρ) hs hb1 hz h5
 have hpc : s'.pc = pc2 := hpc
 refine ⟨v, s', h6, by rw [hpc]; exact x1.trans x2, fun {w0 φ w p bm b} hlb hρ hg hp hbm hpos hlen hfc {A L C} hA => ?_⟩
 rw [hpc] at hρ
 obtain ⟨e1, arr0, fz0, b1, b2, b3⟩ := hend (hρ.of_ext x2) (hg.hp.obj _ _ ho) hp
 obtain ⟨a1, a2, a3, a4, a5⟩ := hcx (P := P) hρ (hg.hp.obj _ _ ho) hp
 obtain ⟨m1, m2, m3⟩ := hm ρ hρ.rg
 have hmn : (m.ev ρ).toNat = (len.ev ρ).toNat + bm := by omega
 have hroom := room1 e1 (off.ev ρ).toNat
 have hkill : Gm P ρ w0 φ (killS ⟨s.hp, s.nx, pc2⟩ id) w := (hg.kill ho).pc pc2
 rcases hA with ⟨rfl, rfl, rfl⟩ | ⟨hl0, rfl, rfl⟩
 rotate_left
 ·exact hnew hρ.rg hkill hT hn1 hu (hlb w) (by omega) (by omega) (ropeZ_app cx cy) (by omega) hlen (fun w' _ => by rw [first0, List.length_eq_zero_iff.1 (show (ropeZ ρ cx).length = 0 by omega)]; rfl) hfc
 rcases Nat.lt_or_ge (p.room (off.ev ρ).toNat) ((len.ev ρ).toNat + bm) with hc | hc
 ·exact hnew hρ.rg hkill hT hn1 hu (hlb w) hmn hc (ropeZ_app cx cy) a4 hlen (fun w' he => by
   have := first_bytes (P := P) (a5.heap he) (m := (len.ev ρ).toNat) (c := p.room (off.ev ρ).toNat) (k := (len.ev ρ).toNat) (by omega)
   rwa [List.take_of_length_le (by omega)] at this) hfc
 ·obtain ⟨w', arr', r1, r2, r3, r4, r5, r6⟩ := store_into hg ho hl hp b1 b2 b3 (q := p.sh + (off.ev ρ).toNat + (len.ev ρ).toNat) (bytV_one (ropeZ ρ cy)) (by rw [bytV_len, hlen]; omega)
  obtain ⟨φ', q1, q2, q3⟩ := hin (pl := p) (q := (off.ev ρ).toNat) (arr := arr') (fz := fz0) (r2.pc pc2) e1 (hg.lo id p hp).1 r6 (fun i o' q hi hl' hq => hg.kill_free ho hl hp i o' q hi hl' hq) r3 r4 (by omega) (by rw [ropeZ_app, List.length_append]; omega) (by omega) b3 (fun i z hi => by
   rw [r5, bytV_len, hlen]
   rw [ropeZ_app] at hi
   by_cases hlt : i < (len.ev ρ).toNat
   ·rw [if_neg (by omega)]
    rw [List.getElem?_append_left (by omega)] at hi
    have := a5 i z hi
    simp only [World.cell?, b1] at this
    exact this
   ·have hi2 := (List.getElem?_eq_some_iff.1 hi).1
    rw [List.length_append] at hi2
    rw [if_pos (by omega)]
    rw [List.getElem?_append_right (by omega)] at hi
    rw [show p.sh + (off.ev ρ).toNat + i - (p.sh + (off.ev ρ).toNat + (len.ev ρ).toNat) = i - (ropeZ ρ cx).length by omega]
    exact bytV_get hi) (fun x hx => (hg.fr x hx).2.2 id p hp)
  refine ⟨φ', _, w', q1, q2, q3, ?_⟩
  rw [hmn]
  refine append_in hT hn1 hu hs (hlb w) hc (bytV (ropeZ ρ cy)).toArray (hfc w rfl) ?_
  show (storeCells ((⟨p.blk, p.sh + (off.ev ρ).toNat, none⟩ : Addr).add ((len.ev ρ).toNat * 1)) (bytV (ropeZ ρ cy))).run P w = _
  rw [add_plain, Nat.mul_one]
  exact r1
theorem appR_sound {Ts : Array TypeId} {s : St} {x y : AV} {κ : AV → St → R} (hD : appR P Ts s x y κ ∈ D) : ∃ v s', κ v s' ∈ D ∧ PcExt s.pc s'.pc ∧ ∀ {w0 φ w a b}, Holds ρ s'.pc → Gm P ρ w0 φ s w → conc φ ρ x = some a → conc φ ρ y = some b → ∃ φ' z w', φ <+: φ' ∧ conc φ' ρ v = some z ∧ Gm P ρ w0 φ' s' w' ∧ ∀ R', (Builtin.append_ Ts R' #[a, b]).run P w = .ok z w' := by
 obtain ⟨T, hT, h1⟩ := optK_inv hD
 obtain ⟨t, ht, h2⟩ := optK_inv h1
 split at h2
 rotate_left
 ·cases h2
 rename_i e sz
 obtain ⟨hu, hs⟩ := ixOf_sli ht
 obtain ⟨hb, h3⟩ := brec_inv h2
 rw [Bool.and_eq_true] at hb
 obtain ⟨hn1, hby⟩ := hb
 obtain ⟨rfl, hb1, hz⟩ := byteT_ok hby
 obtain ⟨cy, pc1, h4, x1, hcy⟩ := readR_sound (P := P) (ρ := ρ) h3
 obtain ⟨ny, h5, hny⟩ := lenS_inv h4
 rcases brec_cases h5 with ⟨hop, h5'⟩ | ⟨hop, h5'⟩ <;> (clear h5; have h5 := h5'; clear h5')
 ·-- something stands ahead: what is put behind it may be nothing
  have hy1 : ∀ {pc3 : PC}, PcExt pc1 pc3 → ∀ {w0 φ w bv}, Holds ρ pc3 → Gm P ρ w0 φ s w → conc φ ρ y = some bv → ∃ bp bm bc, bv = .slice bp bm bc ∧ bm = (ny.ev ρ).toNat ∧ bm = (ropeZ ρ cy).length ∧ ∀ k, k ≤ bm → ∀ w' : World, w'.heap = w.heap → (Builtin.firstCells 1 k (.slice bp bm bc)).run P w' = .ok (bytV ((ropeZ ρ cy).take k)).toArray w' := by
   intro pc3 x3 w0 φ w bv hρ hg hb
   have hρ2 := hρ.of_ext x3
   obtain ⟨bp, bm, bc, rfl, q1, q2⟩ := hcy hρ2 hg hb
   obtain ⟨q3, bp', bm', bc', e1, q4⟩ := hny hρ2.rg hb
   cases e1
   exact ⟨bp, bm, bc, rfl, q4, q1, q2⟩
  rw [openB, Bool.and_eq_true] at hop
  replace hop := hop.1
  unfold posL at hop
  split at hop
  ·rename_i id off len
   rw [natBle, decide_eq_true_eq] at hop
   have hop : 1 ≤ len := hop
   obtain ⟨v, s', h8, hx, h9⟩ := appT_sound (ρ := ρ) hT hn1 hu hs hb1 hz h5
   refine ⟨v, s', h8, x1.trans hx, fun {w0 φ w a b} hρ hg ha hb => ?_⟩
   obtain ⟨p, hp, rfl⟩ := conc_sl ha
   obtain ⟨bp, bm, bc, rfl, q1, q2, q4⟩ := hy1 hx hρ hg hb
   have hl : ((natS len).ev ρ).toNat = len := rfl
   exact h9 (fun _ => by simp [Builtin.lenOf]) hρ hg hp q1 (by omega) q2.symm (fun w' he => by
    have := q4 bm (Nat.le_refl _) w' he
    rwa [List.take_of_length_le (by omega)] at this) (.inl ⟨rfl, rfl, rfl⟩)
  ·rename_i id o0 off len
   have hlo : ∀ {pc3 : PC}, PcExt pc1 pc3 → Holds ρ pc3 → 1 ≤ len.ev ρ := fun {pc3} x3 hρ => by
    unfold opt1' at hop
    cases hr : rngS pc1.rg len with
    | none => rw [hr] at hop; cases hop
    | some r =>
     obtain ⟨l, u⟩ := r
     rw [hr] at hop
     have hop : leF (.ofNat 1) l = true := hop
     rw [leF_eq, decide_eq_true_eq] at hop
     have hin := rngS_in (hρ.of_ext x3).rg len l u hr
     have : (1 : Int) ≤ l := hop
     omega
   obtain ⟨v, s', h9, hx, h10⟩ := appT_sound (ρ := ρ) hT hn1 hu hs hb1 hz h5
   refine ⟨v, s', h9, x1.trans hx, fun {w0 φ w a b} hρ hg ha hb => ?_⟩
   have hlen := hlo hx hρ
   have hpl : ∃ p, φ[id]? = some p := by
    simp only [conc, Option.map_eq_some_iff] at ha
    obtain ⟨p, hp, _⟩ := ha
    exact ⟨p, hp⟩
   obtain ⟨p, hp⟩ := hpl
   rw [ssl_none hp, if_neg (fun hh => by have := hh.1; omega)] at ha
   cases ha
   obtain ⟨bp, bm, bc, rfl, q1, q2, q4⟩ := hy1 hx hρ hg hb
   exact h10 (fun _ => by simp [Builtin.lenOf]) hρ hg hp q1 (by omega) q2.symm (fun w' he => by
    have := q4 bm (Nat.le_refl _) w' he
    rwa [List.take_of_length_le (by omega)] at this) (.inl ⟨rfl, rfl, rfl⟩)
  ·cases hop
 clear hop
 obtain ⟨b0, pc2, h6, x2, hle⟩ := leD_inv h5
 -- what is put behind it
 have hy : ∀ {pc3 : PC}, PcExt pc2 pc3 → ∀ {w0 φ w bv}, Holds ρ pc3 → Gm P ρ w0 φ s w → conc φ ρ y = some bv → ∃ bp bm bc, bv = .slice bp bm bc ∧ bm = (ny.ev ρ).toNat ∧ bm = (ropeZ ρ cy).length ∧ (b0 = true ↔ bm = 0) ∧ ∀ k, k ≤ bm → ∀ w' : World, w'.heap = w.heap → (Builtin.firstCells 1 k (.slice bp bm bc)).run P w' = .ok (bytV ((ropeZ ρ cy).take k)).toArray w' := by
  intro pc3 x3 w0 φ w bv hρ hg hb
  have hρ2 := hρ.of_ext x3
  obtain ⟨bp, bm, bc, rfl, q1, q2⟩ := hcy (hρ2.of_ext x2) hg hb
  obtain ⟨q3, bp', bm', bc', e1, q4⟩ := hny (by rw [← x2.rg]; exact hρ2.rg) hb
  cases e1
  have h7 := hle ρ hρ2
  have h8 : zeroS.ev ρ = 0 := rfl
  rw [h8] at h7
  exact ⟨bp, bm, bc, rfl, q4, q1, by constructor <;> intro hh <;> (first | (have := h7.1 hh; omega) | (exact h7.2 (by omega))), q2⟩
 rcases brec_cases h6 with ⟨rfl, h7⟩ | ⟨rfl, h7⟩
 ·have span : ∀ {id : Nat} {o0 off len : SI} {κ' : PC → R}, spanK s.hp e pc2 id off len κ' ∈ D → ∃ pc', κ' pc' ∈ D ∧ PcExt pc2 pc' ∧ ∀ {w0 φ w a b}, Holds ρ pc' → Gm P ρ w0 φ s w → conc φ ρ (.ssl id o0 off len none) = some a → conc φ ρ y = some b → ∀ R', (Builtin.append_ Ts R' #[a, b]).run P w = .ok a w := by
   intro id o0 off len κ' hk
   obtain ⟨pc', h8, x3, h9⟩ := spanK_inv hs hk
   refine ⟨pc', h8, x3, fun {w0 φ w a b} hρ hg ha hb => ?_⟩
   obtain ⟨bp, bm, bc, rfl, q1, q2, q3, q4⟩ := hy x3 hρ hg hb
   obtain rfl : bm = 0 := q3.1 rfl
   have hlenY : (Builtin.lenOf (.slice bp 0 bc)).run P w = .ok 0 w := by simp [Builtin.lenOf]
   have hpl : ∃ p, φ[id]? = some p := by
    simp only [conc, Option.map_eq_some_iff] at ha
    obtain ⟨p, hp, _⟩ := ha
    exact ⟨p, hp⟩
   obtain ⟨p, hp⟩ := hpl
   obtain ⟨a1, a2, a3, a4⟩ := h9 hρ hg.hp hp
   rw [ssl_none hp] at ha
   split at ha
   ·cases ha
    exact append_in hT hn1 hu hs hlenY (Nat.le_refl _) #[] first0 (by rfl)
   ·cases ha
    exact append_in hT hn1 hu hs hlenY (by rw [room1 a3]; omega) #[] first0 (by rfl)
  unfold zeroX at h7
  split at h7
  ·rename_i id o0 off len
   obtain ⟨pc', h8, x3, h9⟩ := span (o0 := o0) h7
   exact ⟨_, _, h8, (x1.trans x2).trans x3, fun {w0 φ w a b} hρ hg ha hb => ⟨φ, a, w, List.prefix_refl _, ha, hg.pc _, h9 hρ hg ha hb⟩⟩
  ·rename_i id off len
   obtain ⟨pc', h8, x3, h9⟩ := span (o0 := natS off) h7
   exact ⟨_, _, h8, (x1.trans x2).trans x3, fun {w0 φ w a b} hρ hg ha hb => ⟨φ, a, w, List.prefix_refl _, ha, hg.pc _, h9 hρ hg (by rw [← sl_ssl]; exact ha) hb⟩⟩
  obtain ⟨hsl, h8⟩ := brec_inv h7
  refine ⟨_, _, h8, x1.trans x2, fun {w0 φ w a b} hρ hg ha hb => ?_⟩
  obtain ⟨bp, bm, bc, rfl, q1, q2, q3, q4⟩ := hy (.refl _) hρ hg hb
  obtain rfl : bm = 0 := q3.1 rfl
  have hlenY : (Builtin.lenOf (.slice bp 0 bc)).run P w = .ok 0 w := by simp [Builtin.lenOf]
  unfold isSlV at hsl
  split at hsl
  ·rename_i id off len c
   rw [natBle] at hsl
   have hsl := of_decide_eq_true hsl
   have ha0 := ha
   obtain ⟨p, hp, rfl⟩ := conc_sl ha
   refine ⟨φ, _, w, List.prefix_refl _, ha0, hg.pc _, ?_⟩
   exact append_in hT hn1 hu hs hlenY (by simpa using hsl) #[] first0 (by rfl)
  ·simp only [conc, Option.some.injEq] at ha
   subst ha
   refine ⟨φ, _, w, List.prefix_refl _, rfl, hg.pc _, ?_⟩
   exact append_in hT hn1 hu hs hlenY (Nat.le_refl _) #[] first0 (by rfl)
  ·cases hsl
 ·-- a new row, of nothing ahead
  have fresh : ∀ {κ' : AV → St → R}, growX P ⟨s.hp, s.nx, pc2⟩ e ny cy κ' ∈ D → ∃ v s', κ' v s' ∈ D ∧ PcExt s.pc s'.pc ∧ ∀ {w0 φ w b} {p : Option Addr}, Holds ρ s'.pc → Gm P ρ w0 φ s w → conc φ ρ y = some b → ∃ φ' z w', φ <+: φ' ∧ conc φ' ρ v = some z ∧ Gm P ρ w0 φ' s' w' ∧ ∀ R', (Builtin.append_ Ts R' #[.slice p 0 0, b]).run P w = .ok z w' := by
   intro κ' h8
   obtain ⟨v, s', h9, hpc, hnew, _⟩ := growX_sound (ρ := ρ) hs hb1 hz h8
   have hpc : s'.pc = pc2 := hpc
   refine ⟨v, s', h9, by rw [hpc]; exact x1.trans x2, fun {w0 φ w b p} hρ hg hb => ?_⟩
   rw [hpc] at hρ
   obtain ⟨bp, bm, bc, rfl, q1, q2, q3, q4⟩ := hy (.refl _) hρ hg hb
   have hpos : 0 < bm := by
    rcases Nat.eq_zero_or_pos bm with hh | hh
    ·cases q3.2 hh
    ·exact hh
   refine hnew (n := bm) (sLen := 0) (sCap := 0) (zx := []) (zy := ropeZ ρ cy) hρ.rg (hg.pc pc2) hT hn1 hu (by simp [Builtin.lenOf]) (by omega) (by omega) rfl rfl q2.symm (fun w' _ => by rw [first0]; rfl) (fun w' he => ?_)
   have := q4 bm (Nat.le_refl _) w' he
   rwa [List.take_of_length_le (by omega)] at this
  unfold appW at h7
  split at h7
  ·obtain ⟨v, s', h8, hx, h9⟩ := fresh h7
   refine ⟨v, s', h8, hx, fun {w0 φ w a b} hρ hg ha hb => ?_⟩
   simp only [conc, Option.some.injEq] at ha
   subst ha
   exact h9 hρ hg hb
  ·rename_i id off
   obtain ⟨v, s', h8, hx, h9⟩ := fresh h7
   refine ⟨v, s', h8, hx, fun {w0 φ w a b} hρ hg ha hb => ?_⟩
   obtain ⟨p, hp, rfl⟩ := conc_sl ha
   exact h9 hρ hg hb
  ·rename_i id off len
   obtain ⟨v, s', h8, hx, h9⟩ := appT_sound (ρ := ρ) hT hn1 hu hs hb1 hz h7
   refine ⟨v, s', h8, (x1.trans x2).trans hx, fun {w0 φ w a b} hρ hg ha hb => ?_⟩
   obtain ⟨p, hp, rfl⟩ := conc_sl ha
   obtain ⟨bp, bm, bc, rfl, q1, q2, q3, q4⟩ := hy hx hρ hg hb
   have hpos : 0 < bm := by
    rcases Nat.eq_zero_or_pos bm with hh | hh
    ·cases q3.2 hh
    ·exact hh
   exact h9 (fun _ => by simp [Builtin.lenOf]) hρ hg hp q1 (by omega) q2.symm (fun w' he => by
    have := q4 bm (Nat.le_refl _) w' he
    rwa [List.take_of_length_le (by omega)] at this) (.inl ⟨rfl, rfl, rfl⟩)
  ·rename_i id o0 off len
   rcases brec_cases h7 with ⟨_, h8⟩ | ⟨hnz, h8⟩
   ·cases h8
   obtain ⟨v, s', h9, hx, h10⟩ := appT_sound (ρ := ρ) hT hn1 hu hs hb1 hz h8
   refine ⟨v, s', h9, (x1.trans x2).trans hx, fun {w0 φ w a b} hρ hg ha hb => ?_⟩
   have hpl : ∃ p, φ[id]? = some p := by
    simp only [conc, Option.map_eq_some_iff] at ha
    obtain ⟨p, hp, _⟩ := ha
    exact ⟨p, hp⟩
   obtain ⟨p, hp⟩ := hpl
   rw [ssl_none hp] at ha
   obtain ⟨bp, bm, bc, rfl, q1, q2, q3, q4⟩ := hy hx hρ hg hb
   have hpos : 0 < bm := by
    rcases Nat.eq_zero_or_pos bm with hh | hh
    ·cases q3.2 hh
    ·exact hh
   have hfc : ∀ w' : World, w'.heap = w.heap → (Builtin.firstCells 1 bm (.slice bp bm bc)).run P w' = .ok (bytV (ropeZ ρ cy)).toArray w' := fun w' he => by
    have := q4 bm (Nat.le_refl _) w' he
    rwa [List.take_of_length_le (by omega)] at this
   split at ha
   ·rename_i hc
    cases ha
    exact h10 (fun _ => by simp [Builtin.lenOf]) hρ hg hp q1 (by omega) q2.symm hfc (.inr ⟨hc.1, rfl, rfl⟩)
   ·cases ha
    exact h10 (fun _ => by simp [Builtin.lenOf]) hρ hg hp q1 (by omega) q2.symm hfc (.inl ⟨rfl, rfl, rfl⟩)
  ·cases h7
theorem app0_sound {Ts : Array TypeId} {s : St} {x : AV} {κ : AV → St → R} (hD : app0 P Ts s x κ ∈ D) : κ x s ∈ D ∧ ∀ {w0 φ w a} {q : Option Addr} {qc : Nat}, Gm P ρ w0 φ s w → conc φ ρ x = some a → ∀ R', (Builtin.append_ Ts R' #[a, .slice q 0 qc]).run P w = .ok a w := by
 obtain ⟨T, hT, h1⟩ := optK_inv hD
 obtain ⟨t, ht, h2⟩ := optK_inv h1
 split at h2
 rotate_left
 ·cases h2
 rename_i e sz
 obtain ⟨hu, hs⟩ := ixOf_sli ht
 obtain ⟨hn1, h3⟩ := brec_inv h2
 have fst : ∀ {q : Option Addr} {qc : Nat} {w : World}, (Builtin.firstCells sz 0 (.slice q 0 qc)).run P w = .ok #[] w := by
  intro q qc w
  cases q with
  | none => rfl
  | some a =>
   show (loadCells a (0 * sz)).run P w = _
   rw [Nat.zero_mul]
   rfl
 have hlenY : ∀ {q : Option Addr} {qc : Nat} {w : World}, (Builtin.lenOf (.slice q 0 qc)).run P w = .ok 0 w := rfl
 unfold app0K at h3
 split at h3
 ·rename_i id off len
  obtain ⟨k, c, d, T', r, hid, h4⟩ := objK_inv h3
  obtain ⟨hb, h5⟩ := brec_inv h4
  simp only [Bool.and_eq_true, natBeq, natBle, decide_eq_true_eq] at hb
  obtain ⟨rfl, rfl, hle⟩ := hb
  refine ⟨h5, fun {w0 φ w a q qc} hg ha => ?_⟩
  obtain ⟨p, hp, rfl⟩ := conc_sl ha
  obtain ⟨p', arr0, fz0, hp', hc⟩ := hg.hp.obj _ _ hid
  rw [hp] at hp'; cases hp'
  have hes := hc.es rfl
  rw [hs] at hes
  have hes1 : p.es = sz := (Option.some.inj hes.1).symm
  exact append_in hT hn1 hu hs hlenY (room_le hes1 (by rw [← hes1]; exact hes.2) (by rw [Nat.add_zero]; exact hle) hc.le) #[] fst (by rfl)
 ·obtain ⟨hsl, h4⟩ := brec_inv h3
  refine ⟨h4, fun {w0 φ w a q qc} hg ha => ?_⟩
  unfold isSlV at hsl
  split at hsl
  ·rename_i id off len c _
   rw [natBle] at hsl
   have hsl := of_decide_eq_true hsl
   obtain ⟨p, hp, rfl⟩ := conc_sl ha
   exact append_in hT hn1 hu hs hlenY (by simpa using hsl) #[] fst (by rfl)
  ·simp only [conc, Option.some.injEq] at ha
   subst ha
   exact append_in hT hn1 hu hs hlenY (Nat.le_refl _) #[] fst (by rfl)
  ·cases hsl
def zeroV (n : Nat) : Value := .string ⟨Array.replicate n (0 : UInt8)⟩
theorem zeroV_len {n : Nat} {w : World} : (Builtin.lenOf (zeroV n)).run P w = .ok n w := by
 unfold zeroV Builtin.lenOf
 simp [ByteArray.size]
theorem zeroV_first {n : Nat} {w : World} : (Builtin.firstCells 1 n (zeroV n)).run P w = .ok (Array.replicate n (.int .u8 0)) w := by
 unfold zeroV Builtin.firstCells
 simp [ByteArray.extract, ByteArray.size]
 have : (ByteArray.copySlice { data := Array.replicate n 0 } 0 ByteArray.empty 0 n).data = Array.replicate n 0 := by
  show (#[] : Array UInt8).extract 0 0 ++ (Array.replicate n (0 : UInt8)).extract 0 (0 + n) ++ (#[] : Array UInt8).extract (0 + min n ((Array.replicate n (0 : UInt8)).size - 0)) (#[] : Array UInt8).size = _
  simp
 rw [this, Array.map_replicate]
 rfl
theorem zeroCells_u8 (n : Nat) : Builtin.zeroCells #[.int .u8 0] n = Array.replicate n (.int .u8 0) := by
 unfold Builtin.zeroCells
 apply Array.ext
 ·simp
 ·intro i h1 h2
  simp [Nat.mod_one]
theorem growBy_ge (m : Nat) : ∀ (r c : Nat), c ≤ Builtin.growBy m r c
 | 0, c => Nat.le_refl _
 | r + 1, c => by
  unfold Builtin.growBy
  split
  ·exact Nat.le_refl _
  ·exact Nat.le_trans (Nat.le_add_right _ _) (growBy_ge m r _)
theorem nextcap_ge {m c : Nat} : m ≤ 2 * Builtin.nextslicecap m c := by
 unfold Builtin.nextslicecap
 split
 ·omega
 ·split
  ·omega
  ·have := growBy_ge m 4 c
   omega
theorem append_noughts {w w' : World} {Ts : Array TypeId} {T T1 e sLen n sCap : Nat} {p : Option Addr} {z : Value} {k ki : IntKind} {x : Int} (hT : Ts[0]? = some T) (hT1 : Ts[1]? = some T1) (hi1 : P.underlying T1 = some (.int ki)) (hu : P.underlying T = some (.slice e)) (hs : sizeA P e = some 1) (hb1 : bytesA P e = some 1) (hz : zeroA P e = some (.int .u8 (.lit (.ofNat 0)))) (hx : 0 ≤ x ∧ x ≤ 1099511627776) (hn : n = x.toNat)
  (h : ∀ R', (Builtin.append_ #[T, T] R' #[.slice p sLen sCap, zeroV n]).run P w = .ok z w') (R' : TypeId) : (Builtin.append_ Ts R' #[.slice p sLen sCap, .int k x]).run P w = .ok z w' := by
 have h := h R'
 unfold Builtin.append_ at h ⊢
 simp only [hT, hT1, List.getElem?_toArray, List.getElem?_cons_zero, List.getElem?_cons_succ, Sem.run_bind, run_underlying hu, Result.andThen_ok, run_size hs, run_underlying hi1, Sem.run_pure] at h ⊢
 obtain ⟨i, hi, hib⟩ : ∃ i, P.info? e = some i ∧ i.bytes = 1 := by
  unfold bytesA at hb1
  cases hinf : P.info? e with
  | none => rw [hinf] at hb1; cases hb1
  | some i => rw [hinf] at hb1; exact ⟨i, rfl, by simpa using hb1⟩
 have hw : IntKind.i64.wrap x = x := wrap_in ⟨by show (-9223372036854775808 : Int) ≤ _; omega, by show _ ≤ (9223372036854775807 : Int); omega⟩
 have hzr : ∀ w : World, (zeroValue e).run P w = .ok (.int .u8 0) w := by
  intro w
  obtain ⟨zv, h1, h2⟩ := zero_conc hz (w := w) (φ := []) (ρ := fun _ => 0)
  simp only [conc, SI.ev, Option.some.injEq] at h2
  rw [h1, ← h2]
  rfl
 have hcl : (Value.int IntKind.u8 0).cells = #[.int .u8 0] := rfl
 have hap : ∀ w : World, Sem.run P (if n * 1 = 0 then (pure #[] : Sem (Array Value)) else do let a ← zeroValue e; pure (Builtin.zeroCells a.cells n)) w = .ok (Array.replicate n (.int .u8 0)) w := by
  intro w
  by_cases h0 : n = 0
  ·subst h0; rfl
  ·rw [if_neg (by omega)]
   simp only [Sem.run_bind, hzr, Result.andThen_ok, Sem.run_pure, hcl, zeroCells_u8]
 simp only [Bool.false_eq_true, if_false, if_true, Bool.not_false, Bool.not_true, zeroV_len, zeroV_first, Sem.run_bind, Result.andThen_ok, run_ti hi, hib, hw, Sem.run_pure, false_or, true_or, and_true, and_false] at h ⊢
 have hai : (Go.asInt (.int k x)).run P w = .ok x w := by rfl
 rw [hai]
 simp only [Result.andThen_ok, hw]
 rw [if_neg (show ¬ x < 0 by omega)]
 simp only [Sem.run_bind, run_ti hi, Result.andThen_ok, hib]
 rw [if_neg (show ¬ (x * ((1 : Nat) : Int) > 2 ^ 48) by omega)]
 simp only [Sem.run_bind, Sem.run_pure, Result.andThen_ok, ← hn]
 by_cases hcap : sLen + n ≤ sCap
 ·simp only [hcap, if_true, Sem.run_bind, zeroV_first, hap, Result.andThen_ok] at h ⊢
  exact h
 ·simp only [hcap, if_false, Sem.run_bind, run_ti hi, Result.andThen_ok, hib, Nat.one_ne_zero, and_false] at h ⊢
  have hng : ¬ (Builtin.nextslicecap (sLen + n) sCap * 1 > 2 ^ 48) := by
   intro hgt
   simp only [hgt, if_true, Sem.run_bind] at h
   cases hm : Sem.run P (Builtin.mayShare 1 sLen n p (zeroV n)) w with
   | ok b w1 =>
    rw [hm] at h
    cases b <;> cases h
   | _ => rw [hm] at h; cases h
  have hge := nextcap_ge (m := sLen + n) (c := sCap)
  have hmx : ¬ (((sLen + n : Nat) : Int) > IntKind.i64.max) := by
   show ¬ (((sLen + n : Nat) : Int) > 9223372036854775807)
   omega
  simp only [hng, hmx, if_false, Sem.run_bind, run_ti hi, Result.andThen_ok, hib, zeroV_first, hap] at h ⊢
  exact h
theorem appI_sound {Ts : Array TypeId} {s : St} {x y : AV} {κ : AV → St → R} (hD : appI P Ts s x y κ ∈ D) : ∃ v s', κ v s' ∈ D ∧ PcExt s.pc s'.pc ∧ ∀ {w0 φ w a b}, Holds ρ s'.pc → Gm P ρ w0 φ s w → conc φ ρ x = some a → conc φ ρ y = some b → ∃ φ' z w', φ <+: φ' ∧ conc φ' ρ v = some z ∧ Gm P ρ w0 φ' s' w' ∧ ∀ R', (Builtin.append_ Ts R' #[a, b]).run P w = .ok z w' := by
 obtain ⟨T, hT, h1⟩ := optK_inv hD
 obtain ⟨t, ht, h2⟩ := optK_inv h1
 split at h2
 rotate_left
 ·cases h2
 rename_i e sz
 split at h2
 rotate_left
 ·cases h2
 rename_i k ny
 obtain ⟨hu, hs⟩ := ixOf_sli ht
 obtain ⟨hb, h3⟩ := brec_inv h2
 simp only [Bool.and_eq_true] at hb
 obtain ⟨hi, hby, hmk⟩ := hb
 obtain ⟨rfl, hb1, hz⟩ := byteT_ok hby
 obtain ⟨T1, ki, hT1, hi1⟩ : ∃ T1 ki, Ts[1]? = some T1 ∧ P.underlying T1 = some (.int ki) := by
  unfold intTy at hi
  split at hi
  ·rename_i T1 h1
   split at hi
   ·rename_i ki h2
    exact ⟨T1, ki, h1, h2⟩
   ·cases hi
  ·cases hi
 have hn1 : notIntT P (#[T, T][1]?) = true := by
  show notIntT P (some T) = true
  unfold notIntT
  simp only [hu]
 have hrg : ∀ {ρ}, RgOk ρ s.pc.rg → 1 ≤ ny.ev ρ ∧ ny.ev ρ ≤ 1099511627776 := by
  intro ρ hρ
  unfold mkOk opt1' at hmk
  cases hr : rngS s.pc.rg ny with
  | none => rw [hr] at hmk; cases hmk
  | some r =>
   obtain ⟨l, u⟩ := r
   rw [hr] at hmk
   have hmk : (leF (.ofNat 1) l && leF u (.ofNat 1099511627776)) = true := hmk
   simp only [Bool.and_eq_true, leF_eq, decide_eq_true_eq] at hmk
   have hin := rngS_in hρ ny l u hr
   have h5 : (1 : Int) ≤ l := hmk.1
   have h6 : u ≤ (1099511627776 : Int) := hmk.2
   omega
 have hrz : ∀ {ρ}, ropeZ ρ [.fil ny zeroS] = List.replicate (ny.ev ρ).toNat 0 := by
  intro ρ
  simp only [ropeZ, List.flatMap_cons, List.flatMap_nil, List.append_nil, Ch.zs]
  rfl
 have hfc : ∀ (ρ : Nat → Int) (w' : World), (Builtin.firstCells 1 (ny.ev ρ).toNat (zeroV (ny.ev ρ).toNat)).run P w' = .ok (bytV (ropeZ ρ [.fil ny zeroS])).toArray w' := by
  intro ρ w'
  rw [zeroV_first, hrz]
  congr 1
  apply Array.ext'
  simp [bytV]
 have hlz : ∀ {ρ}, (ropeZ ρ [.fil ny zeroS]).length = (ny.ev ρ).toNat := by intro ρ; rw [hrz, List.length_replicate]
 have fin : ∀ {w w' : World} {L C : Nat} {A : Option Addr} {z : Value} {ρ : Nat → Int}, RgOk ρ s.pc.rg → (∀ R', (Builtin.append_ #[T, T] R' #[.slice A L C, zeroV (ny.ev ρ).toNat]).run P w = .ok z w') → ∀ R', (Builtin.append_ Ts R' #[.slice A L C, .int k (ny.ev ρ)]).run P w = .ok z w' := by
  intro w w' L C A z ρ hρ h R'
  have := hrg hρ
  exact append_noughts hT hT1 hi1 hu hs hb1 hz ⟨by omega, by omega⟩ rfl h R'
 unfold appW at h3
 have fresh : ∀ {κ' : AV → St → R}, growX P ⟨s.hp, s.nx, s.pc⟩ e ny [.fil ny zeroS] κ' ∈ D → ∃ v s', κ' v s' ∈ D ∧ PcExt s.pc s'.pc ∧ ∀ {w0 φ w b} {p : Option Addr}, Holds ρ s'.pc → Gm P ρ w0 φ s w → conc φ ρ (.int k ny) = some b → ∃ φ' z w', φ <+: φ' ∧ conc φ' ρ v = some z ∧ Gm P ρ w0 φ' s' w' ∧ ∀ R', (Builtin.append_ Ts R' #[.slice p 0 0, b]).run P w = .ok z w' := by
  intro κ' h8
  obtain ⟨v, s', h9, hpc, hnew, _⟩ := growX_sound (ρ := ρ) hs hb1 hz h8
  have hpc : s'.pc = s.pc := hpc
  refine ⟨v, s', h9, by rw [hpc]; exact .refl _, fun {w0 φ w b p} hρ hg hb => ?_⟩
  rw [hpc] at hρ
  simp only [conc, Option.some.injEq] at hb
  subst hb
  have hr := hrg hρ.rg
  obtain ⟨φ', z, w', q1, q2, q3, q4⟩ := hnew (Ts := #[T, T]) (T := T) (p := p) (y := zeroV (ny.ev ρ).toNat) (n := (ny.ev ρ).toNat) (sLen := 0) (sCap := 0) (zx := []) (zy := ropeZ ρ [.fil ny zeroS]) hρ.rg (hg.pc s.pc) rfl hn1 hu zeroV_len (by omega) (by omega) rfl rfl hlz (fun w' _ => by rw [first0]; rfl) (fun w' he => hfc ρ w')
  exact ⟨φ', z, w', q1, q2, q3, fin hρ.rg q4⟩
 split at h3
 ·obtain ⟨v, s', h8, hx, h9⟩ := fresh h3
  refine ⟨v, s', h8, hx, fun {w0 φ w a b} hρ hg ha hb => ?_⟩
  simp only [conc, Option.some.injEq] at ha
  subst ha
  exact h9 hρ hg hb
 ·rename_i id off
  obtain ⟨v, s', h8, hx, h9⟩ := fresh h3
  refine ⟨v, s', h8, hx, fun {w0 φ w a b} hρ hg ha hb => ?_⟩
  obtain ⟨p, hp, rfl⟩ := conc_sl ha
  exact h9 hρ hg hb
 ·rename_i id off len
  obtain ⟨v, s', h8, hx, h9⟩ := appT_sound (ρ := ρ) (Ts := #[T, T]) rfl hn1 hu hs hb1 hz h3
  refine ⟨v, s', h8, hx, fun {w0 φ w a b} hρ hg ha hb => ?_⟩
  obtain ⟨p, hp, rfl⟩ := conc_sl ha
  simp only [conc, Option.some.injEq] at hb
  subst hb
  have hr := hrg (hρ.of_ext hx).rg
  obtain ⟨φ', z, w', q1, q2, q3, q4⟩ := h9 (b := zeroV (ny.ev ρ).toNat) (fun _ => zeroV_len) hρ hg hp rfl (by omega) hlz (fun w' he => hfc ρ w') (.inl ⟨rfl, rfl, rfl⟩)
  exact ⟨φ', z, w', q1, q2, q3, fin (hρ.of_ext hx).rg q4⟩
 ·rename_i id o0 off len
  rcases brec_cases h3 with ⟨_, h8⟩ | ⟨hnz, h8⟩
  ·cases h8
  obtain ⟨v, s', h9, hx, h10⟩ := appT_sound (ρ := ρ) (Ts := #[T, T]) rfl hn1 hu hs hb1 hz h8
  refine ⟨v, s', h9, hx, fun {w0 φ w a b} hρ hg ha hb => ?_⟩
  have hpl : ∃ p, φ[id]? = some p := by
   simp only [conc, Option.map_eq_some_iff] at ha
   obtain ⟨p, hp, _⟩ := ha
   exact ⟨p, hp⟩
  obtain ⟨p, hp⟩ := hpl
  rw [ssl_none hp] at ha
  simp only [conc, Option.some.injEq] at hb
  subst hb
  have hr := hrg (hρ.of_ext hx).rg
  split at ha
  ·rename_i hc
   cases ha
   obtain ⟨φ', z, w', q1, q2, q3, q4⟩ := h10 (b := zeroV (ny.ev ρ).toNat) (fun _ => zeroV_len) hρ hg hp rfl (by omega) hlz (fun w' he => hfc ρ w') (.inr ⟨hc.1, rfl, rfl⟩)
   exact ⟨φ', z, w', q1, q2, q3, fin (hρ.of_ext hx).rg q4⟩
  ·cases ha
   obtain ⟨φ', z, w', q1, q2, q3, q4⟩ := h10 (b := zeroV (ny.ev ρ).toNat) (fun _ => zeroV_len) hρ hg hp rfl (by omega) hlz (fun w' he => hfc ρ w') (.inl ⟨rfl, rfl, rfl⟩)
   exact ⟨φ', z, w', q1, q2, q3, fin (hρ.of_ext hx).rg q4⟩
 ·cases h3
theorem appX_sound {Ts : Array TypeId} {s : St} {x y : AV} {κ : AV → St → R} (hD : appX P Ts s x y κ ∈ D) : ∃ v s', κ v s' ∈ D ∧ PcExt s.pc s'.pc ∧ ∀ {w0 φ w a b}, Holds ρ s'.pc → Gm P ρ w0 φ s w → conc φ ρ x = some a → conc φ ρ y = some b → ∃ φ' z w', φ <+: φ' ∧ conc φ' ρ v = some z ∧ Gm P ρ w0 φ' s' w' ∧ ∀ R', (Builtin.append_ Ts R' #[a, b]).run P w = .ok z w' := by
 rcases brec_cases hD with ⟨_, hD⟩ | ⟨_, hD⟩
 ·exact appI_sound hD
 rcases brec_cases hD with ⟨h0, h1⟩ | ⟨_, h1⟩
 ·obtain ⟨h2, h3⟩ := app0_sound (P := P) (ρ := ρ) h1
  refine ⟨x, s, h2, .refl _, fun {w0 φ w a b} hρ hg ha hb => ?_⟩
  rw [Bool.or_eq_true, Bool.and_eq_true] at h0
  rcases h0 with h0 | ⟨h0, _⟩
  ·obtain ⟨p, k, c, e, h4⟩ := osl0_ev h0
   rw [h4 hρ.rg hb]
   exact ⟨φ, a, w, List.prefix_refl _, ha, hg, h3 hg ha⟩
  ·unfold nil0 at h0
   split at h0
   ·simp only [conc, Option.some.injEq] at hb
    subst hb
    exact ⟨φ, a, w, List.prefix_refl _, ha, hg, h3 hg ha⟩
   ·cases h0
 rcases brec_cases h1 with ⟨_, h1⟩ | ⟨_, h1⟩
 ·exact appR_sound h1
 ·obtain ⟨v, s', h2, hpc, h3⟩ := app_sound (P := P) (ρ := ρ) h1
  exact ⟨v, s', h2, by rw [hpc]; exact .refl _, fun _ hg ha hb => h3 hg ha hb⟩
end
end Go.Proofs.YtooebogidjejoaaGreat
namespace Go.Proofs.YtooebogidjejoaaGreat
open Go
section
variable {P : Program} {ρ : Nat → Int} {w0 : Base} {D : Dn}
theorem str_sound {src T : TypeId} {x : AV} {s : St} {κ : AV → St → R} (hD : strBytes P src T x s κ ∈ D) : ∃ v s', κ v s' ∈ D ∧ s'.pc = s.pc ∧ ∀ {w0 φ w b}, Gm P ρ w0 φ s w → conc φ ρ x = some b → ∃ φ' z w', φ <+: φ' ∧ conc φ' ρ v = some z ∧ Gm P ρ w0 φ' s' w' ∧ (convert src T b).run P w = .ok z w' := by
 unfold strBytes at hD
 split at hD
 ·rename_i hsrc
  obtain ⟨t, ht, h1⟩ := optK_inv hD
  split at h1
  ·rename_i e sz
   obtain ⟨hb, h2⟩ := brec_inv h1
   obtain ⟨hu, hs⟩ := ixOf_sli ht
   simp only [Bool.and_eq_true, natBeq, decide_eq_true_eq] at hb
   obtain ⟨hk, rfl⟩ := hb
   have hk : intOfT P e = some .u8 := by
    split at hk
    ·assumption
    ·cases hk
   have hue := intOfT_und hk
   split at h2
   ·rename_i b
    rw [forceN_eq] at h2
    obtain ⟨s', h3, hpc, h4⟩ := newL_sound (P := P) (ρ := ρ) h2
    refine ⟨_, s', h3, hpc, fun {w0 φ w y} hg hy => ?_⟩
    simp only [conc, Option.some.injEq] at hy
    subst hy
    have hx : concL φ ρ (bytesL b) = some (b.data.toList.map fun x => Value.int .u8 x.toNat) := bytes_conc b.data.toList
    let cap := b.size + (w.tape w.drawn (.appendCap b.size 0 e)) % (2 ^ 63 - b.size)
    let arr : Array Value := (b.data.map fun b => Value.int .u8 b.toNat) ++ Array.replicate (cap - b.size) (.int .u8 0)
    have hcap : b.size ≤ cap := by simp only [cap]; omega
    have hasz : arr.size = cap := by
     simp only [arr, Array.size_append, Array.size_map, Array.size_replicate]
     have : b.data.size = b.size := rfl
     omega
    let w1 : World := { w with drawn := w.drawn + 1 }
    let w2 : World := { w1 with heap := w1.heap.push (.cells arr e) }
    let w3 : World := w2.freeze ⟨w.heap.size, cap, none⟩ 1
    have hw2 : w2.heap[w.heap.size]? = some (.cells arr e (0, 0)) := by simp [w2, w1]
    have hw3 : w3.heap[w.heap.size]? = some (.cells arr e (cap, cap + 1)) := by
     simp only [w3, World.freeze]
     simp [Array.getElem?_modify, hw2]
    have hoth : ∀ k, k < w.heap.size → w3.heap[k]? = w.heap[k]? := fun k hk => by
     simp only [w3, World.freeze]
     rw [if_neg (by omega), Array.getElem?_modify, if_neg (by omega)]
     simp [w2, w1, Array.getElem?_push_lt hk, Array.getElem?_eq_getElem hk]
    have hsz3 : w3.heap.size = w.heap.size + 1 := by simp [w3, World.freeze, w2, w1]
    have hg3 : Gm P ρ w0 φ s w3 := hg.world ⟨by rw [← hg.kp.os]; simp [w3, World.freeze, w2, w1], by rw [← hg.kp.tape]; simp [w3, World.freeze, w2, w1], by rw [← hg.kp.output]; simp [w3, World.freeze, w2, w1], by rw [hsz3]; have := hg.kp.size; omega, fun k hk hn => by rw [hoth k (Nat.lt_of_lt_of_le hk hg.kp.size)]; exact hg.kp.block k hk hn⟩ (by omega) (fun i o q hi hl hq => hoth q.blk (hg.lo i q hq).2) (fun x _ hlt _ => hoth x.1 hlt)
    have hm := h4 (p := ⟨w.heap.size, 0, cap, 1⟩) (arr := arr) (fz := (cap, cap + 1)) hg3 hx hg.kp.size (by rw [hsz3]; simp) (fun i o' q hi hl hq he => by have := (hg.lo i q hq).2; simp only at he; omega) hw3 hasz
     (by simp [bytesL]; have : b.data.size = b.size := rfl; omega) (fun h => by cases h) (fun _ => ⟨hs, Nat.one_pos⟩) (fun i hi h => by simp only at hi h; omega) (fun i hi => by
      have hi' : i < b.data.size := by simpa [bytesL] using hi
      simp only [arr, Nat.zero_add]
      rw [Array.getElem?_append_left (by simpa using hi')]
      simp [hi']) (fun x hx => Nat.ne_of_gt (hg.fr x hx).1)
    refine ⟨_, .slice (some ⟨w.heap.size, 0, none⟩) b.size cap, w3, pre_one _ _, ?_, hm, ?_⟩
    ·rw [show AV.sl s.nx (nat_lit 0) b.size none = AV.sl s.nx 0 b.size none from rfl]
     simp only [conc]
     rw [show (φ ++ [(⟨w.heap.size, 0, cap, 1⟩ : Pl)])[s.nx]? = some ⟨w.heap.size, 0, cap, 1⟩ by rw [← hg.len]; simp]
     simp [Pl.room]
    ·have hch : (choose (.appendCap b.size 0 e)).run P w = .ok cap w1 := by simp [choose, Sem.run, Question.forced, Question.cut, cap, w1]
     have hsh : w2.shape? w.heap.size = some (e, cap) := by unfold World.shape?; rw [hw2]; simp [hasz]
     simp only [convert, Sem.run_bind, run_underlying hsrc, run_underlying hu, run_underlying hue, Result.andThen_ok, Conv.stringToBytes, hch, run_newRow]
     rw [show w1.heap.size = w.heap.size from rfl]
     simp only [markStringish, Sem.run_bind, run_shape]
     rw [show ({ w1 with heap := w1.heap.push (.cells ((b.data.map fun b => Value.int .u8 b.toNat) ++ Array.replicate (cap - b.size) (.int .u8 0)) e) } : World) = w2 from rfl, hsh]
     simp only [Result.andThen_ok]
     rfl
   ·cases h2
  ·cases h1
 ·cases hD
theorem mark_sound {src T : TypeId} {id off len : Nat} {cap : Option Nat} {s : St} {κ : AV → St → R} (hD : markK P src T s κ id off len cap ∈ D) : ∃ v s', κ v s' ∈ D ∧ s'.pc = s.pc ∧ ∀ {w0 φ w b}, Gm P ρ w0 φ s w → conc φ ρ (.sl id off len cap) = some b → ∃ w', conc φ ρ v = some b ∧ Gm P ρ w0 φ s' w' ∧ (convert src T b).run P w = .ok b w' := by
 obtain ⟨t, ht, h1⟩ := optK_inv hD
 split at h1
 ·rename_i e sz
  obtain ⟨hu, hs⟩ := ixOf_sli ht
  obtain ⟨ds, hds, h2⟩ := optK_inv h1
  obtain ⟨n, c, d, T', r, hid, h3⟩ := objK_inv h2
  obtain ⟨hb, h4⟩ := brec_inv h3
  simp only [Bool.and_eq_true, natBeq, decide_eq_true_eq, notF_eq, Bool.not_eq_true'] at hb
  obtain ⟨rfl, hk, rfl, hsz⟩ := hb
  have hk : intOfT P e = some .u8 := by
   split at hk
   ·assumption
   ·cases hk
  have hsz : sizeA P T' = some 1 := by
   split at hsz
   ·rename_i m hm
    rw [hm, of_decide_eq_true hsz]
   ·cases hsz
  have hue := intOfT_und hk
  refine ⟨_, _, h4, rfl, fun {w0 φ w b} hg hb => ?_⟩
  obtain ⟨p, arr, fz, hp, hc⟩ := hg.hp.obj _ _ hid
  have hb' := hb
  obtain ⟨p', hp', rfl⟩ := conc_sl hb
  rw [hp] at hp'; cases hp'
  obtain ⟨f1, f2, rfl, f3⟩ := hc.fix rfl
  let w' : World := w.freeze ⟨p.blk, arr.size, none⟩ 1
  have hlt := (hg.lo id p hp).2
  have hw' : w'.heap[p.blk]? = some (.cells arr T' (arr.size, arr.size + 1)) := by
   simp only [w', World.freeze]
   simp [Array.getElem?_modify, hc.blk]
  have hk : Kp [p.blk] w w' := by
   refine ⟨by simp [w', World.freeze], by simp [w', World.freeze], by simp [w', World.freeze], by simp [w', World.freeze], fun k hk hn => ?_⟩
   simp only [List.mem_singleton] at hn
   simp only [w', World.freeze]
   rw [if_neg (by omega), Array.getElem?_modify, if_neg (fun e => hn e.symm)]
  have hsize := hc.size
  refine ⟨w', hb', hg.upd hid rfl hp hk ⟨p, arr, _, hp, ⟨hw', hc.size, hc.le, (fun h => by cases h), (fun _ => ⟨by rw [f3]; exact hsz, by omega⟩), (fun i hi h => by simp only at h; omega), hc.cell⟩⟩, ?_⟩
  have hsh : w.shape? p.blk = some (T', arr.size) := by unfold World.shape?; rw [hc.blk]
  rw [hu] at hds
  simp only [convert, Sem.run_bind, run_underlying hu, run_underlying hue, Result.andThen_ok, beq_self_eq_true]
  simp only [markStringish, Sem.run_bind, run_shape, hsh, Result.andThen_ok]
  rfl
 ·cases h1
theorem convE_sound {src T : TypeId} {x : AV} {s : St} {κ : AV → St → R} (hD : convE P src T x s κ ∈ D) : ∃ v s', κ v s' ∈ D ∧ s'.pc = s.pc ∧ ∀ {w0 φ w b}, Gm P ρ w0 φ s w → conc φ ρ x = some b → ∃ φ' z w', φ <+: φ' ∧ conc φ' ρ v = some z ∧ Gm P ρ w0 φ' s' w' ∧ (convert src T b).run P w = .ok z w' := by
 unfold convE at hD
 split at hD
 ·obtain ⟨v, s', h1, hpc, h2⟩ := mark_sound (ρ := ρ) hD
  refine ⟨v, s', h1, hpc, fun {w0 φ w b} hg hb => ?_⟩
  obtain ⟨w', q1, q2, q3⟩ := h2 hg hb
  exact ⟨φ, b, w', List.prefix_refl _, q1, q2, q3⟩
 ·exact str_sound hD
theorem mapNew_sound {T : TypeId} {s : St} {κ : AV → St → R} (hD : mapNew s κ ∈ D) : ∃ v s', κ v s' ∈ D ∧ s'.pc = s.pc ∧ ∀ {w0 φ a w}, Gm P ρ w0 φ s w → EffO P ρ w0 φ a w s' (.makeMap T none) v := by
 unfold mapNew at hD
 split at hD
 rename_i hp nx pc
 rw [forceN_eq] at hD
 refine ⟨_, _, hD, rfl, fun {w0 φ a w} hg => ?_⟩
 have hlen : φ.length = nx := hg.len
 let w1 : World := { w with heap := w.heap.push (.map #[] 0) }
 have hnx : (φ ++ [(⟨w.heap.size, 0, 0, 1⟩ : Pl)])[nx]? = some ⟨w.heap.size, 0, 0, 1⟩ := by rw [← hlen]; simp
 have ho : ObjOk P (φ ++ [⟨w.heap.size, 0, 0, 1⟩]) ρ w1 nx (.map [] 0) := ⟨_, #[], hnx, by simp [w1], .nil⟩
 have hm := (hg.push (.map #[] 0)).add (p := ⟨w.heap.size, 0, 0, 1⟩) hg.kp.size (by simp) (fun i o' q hi hl hq he => by have := (hg.lo i q hq).2; simp only at he; omega) ho pc (fun x hx => Nat.ne_of_gt (hg.fr x hx).1)
 refine .of (m := Instr.makeMap T none) (pre_one _ _) (x := .map (some w.heap.size)) ?_ hm ?_ (fun o ho => by unfold execOp; simp only [ho]; rfl)
 ·simp only [conc]; rw [hnx]; rfl
 ·simp [Instr.makeMap, Sem.run_bind, newObj, Sem.run]
theorem EntOk.modify {φ : List Pl} {es : List (AV × AV × Nat)} {ms : List MapEntry} (h : EntOk φ ρ es ms) {k v : AV} {x y : Value} (hv : conc φ ρ v = some y) : ∀ (i : Nat), (∀ e, es[i]? = some e → conc φ ρ e.1 = some x) → EntOk φ ρ (modL es i v) (ms.modify i fun e => { e with key := x, val := y }) := by
 unfold modL
 induction h with
 | nil => intro i _; simp; exact .nil
 | cons hk hv' h ih =>
  intro i hx
  cases i with
  | zero =>
   have := hx _ rfl
   simp only [List.modify_zero_cons]
   exact .cons this hv h
  | succ i =>
   simp only [List.modify_succ_cons]
   exact .cons hk hv' (ih i fun e he => hx e (by simpa using he))
theorem EntOk.push {φ : List Pl} {es : List (AV × AV × Nat)} {ms : List MapEntry} (h : EntOk φ ρ es ms) {k v : AV} {x y : Value} {b : Nat} (hk : conc φ ρ k = some x) (hv : conc φ ρ v = some y) : EntOk φ ρ (es ++ [(k, v, b)]) (ms ++ [⟨x, y, b⟩]) := by
 induction h with
 | nil => exact .cons hk hv .nil
 | cons hk' hv' _ ih => exact .cons hk' hv' ih
theorem EntOk.at {φ : List Pl} {es : List (AV × AV × Nat)} {ms : List MapEntry} (h : EntOk φ ρ es ms) : ∀ {j : Nat} {m : MapEntry}, ms[j]? = some m → ∃ e, es[j]? = some e ∧ conc φ ρ e.1 = some m.key ∧ conc φ ρ e.2.1 = some m.val ∧ e.2.2 = m.born := by
 induction h with
 | nil => intro j m h; simp at h
 | cons hk hv h ih =>
  intro j m h2
  cases j with
  | zero => simp at h2; subst h2; exact ⟨_, rfl, hk, hv, rfl⟩
  | succ j => simp at h2; simpa using ih h2
theorem setObj_any {w : World} {r : Nat} {o o' : Obj} (h : w.heap[r]? = some o) (hc : ∀ a b c, o ≠ .cells a b c) : (setObj r o').run P w = .ok () { w with heap := w.heap.setIfInBounds r o' } := by
 simp only [setObj, Sem.run, h]
 try rfl
theorem Gm.setO {φ : List Pl} {s : St} {w : World} (hg : Gm P ρ w0 φ s w) {id : Nat} {o o' : AObj} {pl : Pl} {x : Obj} (hid : s.hp.get id = some o) (hl : live o = true) (hpl : φ[id]? = some pl) (ho : ObjOk P φ ρ { w with heap := w.heap.setIfInBounds pl.blk x } id o') (pc : PC) :
  Gm P ρ w0 φ ⟨s.hp.set id o', s.nx, pc⟩ { w with heap := w.heap.setIfInBounds pl.blk x } :=
 (hg.upd (w' := { w with heap := w.heap.setIfInBounds pl.blk x }) hid hl hpl ⟨rfl, rfl, rfl, by simp, fun k hk hn => by
  simp only [List.mem_singleton] at hn
  show (w.heap.setIfInBounds pl.blk x)[k]? = w.heap[k]?
  rw [Array.getElem?_setIfInBounds_ne (fun e => hn e.symm)]⟩ ho).pc pc
theorem Gm.setM {φ : List Pl} {s : St} {w : World} (hg : Gm P ρ w0 φ s w) {id : Nat} {es es' : List (AV × AV × Nat)} {clk clk' : Nat} {pl : Pl} (hid : s.hp.get id = some (.map es clk)) (hpl : φ[id]? = some pl) {xs xs' : Array MapEntry} {c0 : Nat} (hx : w.heap[pl.blk]? = some (.map xs c0)) (he : EntOk φ ρ es' xs'.toList) (pc : PC) :
  Gm P ρ w0 φ ⟨s.hp.set id (.map es' clk'), s.nx, pc⟩ { w with heap := w.heap.setIfInBounds pl.blk (.map xs' clk') } ∧ (setObj pl.blk (.map xs' clk')).run P w = .ok () { w with heap := w.heap.setIfInBounds pl.blk (.map xs' clk') } :=
 ⟨hg.setO (x := .map xs' clk') (o' := .map es' clk') hid rfl hpl ⟨pl, xs', hpl, by simp [(hg.lo id pl hpl).2], he⟩ pc, setObj_any hx (by simp)⟩
theorem setE_inv {id : Nat} {k v : AV} {es : List (AV × AV × Nat)} {c : Nat} {s : St} {κ : St → R} {r : Option (Nat × AV)} {pc : PC} (hD : setE id k v es c s κ r pc ∈ D) : ∃ es' c', κ ⟨s.hp.set id (.map es' c'), s.nx, pc⟩ ∈ D ∧ (∀ j u, r = some (j, u) → es' = modL es j v ∧ c' = c) ∧ (r = none → es' = es ++ [(k, v, c)] ∧ c' = c + 1) := by
 unfold setE at hD
 cases r with
 | some q => exact ⟨_, _, hD, (fun j u e => by cases e; exact ⟨rfl, rfl⟩), fun e => by cases e⟩
 | none => exact ⟨_, _, hD, (fun j u e => by cases e), fun _ => ⟨rfl, rfl⟩⟩
theorem mapSet_sound {T : TypeId} {s : St} {m k v : AV} {κ : St → R} (hD : mapSet P T s m k v κ ∈ D) : ∃ s', κ s' ∈ D ∧ PcExt s.pc s'.pc ∧ ∀ {w0 φ w a b c}, Holds ρ s'.pc → Gm P ρ w0 φ s w → conc φ ρ m = some a → conc φ ρ k = some b → conc φ ρ v = some c → ∃ w', Gm P ρ w0 φ s' w' ∧ (Instr.mapUpdate T a b c).run P w = .ok () w' := by
 obtain ⟨p, hp, h1⟩ := optK_inv hD
 obtain ⟨key, hu, hkey⟩ := mapTyA_und hp
 obtain ⟨h2, hkv⟩ := keyOk_inv h1
 split at h2
 ·rename_i id
  obtain ⟨es, clk, hid, h3⟩ := mapK_inv h2
  obtain ⟨r, pc', h4, x1, h5⟩ := findK_inv h3
  obtain ⟨es', c', h6, hsome, hnone⟩ := setE_inv h4
  refine ⟨_, h6, x1, fun {w0 φ w a b c} hρ hg ha hb hc => ?_⟩
  obtain ⟨pl, xs, hpl, hx, he⟩ := hg.hp.obj _ _ hid
  simp only [conc, hpl, Option.map_some, Option.some.injEq] at ha
  subst ha
  obtain ⟨r', q1, q2⟩ := h5 hρ hb he
  have hf := find_run (w := w) hkey (hkv hb) q2
  cases r' with
  | some q =>
   obtain ⟨j, y⟩ := q
   cases r with
   | none => exact q1.elim
   | some q0 =>
    obtain ⟨j0, u⟩ := q0
    obtain ⟨rfl, hy⟩ : j0 = j ∧ conc φ ρ u = some y := q1
    obtain ⟨rfl, rfl⟩ := hsome _ _ rfl
    obtain ⟨_, me, e1, e2, e3⟩ := q2.at
    rw [Nat.sub_zero] at e1
    obtain ⟨e, he1, he2, _⟩ := he.at e1
    have hsame := e3.same
    have hmod := he.modify (k := k) (x := b) hc j0 (fun e' he' => by
     rw [he1] at he'; cases he'
     rw [he2, hsame])
    obtain ⟨r1, r2⟩ := hg.setM (es' := modL es j0 v) (xs' := (xs.toList.modify j0 fun e => { e with key := b, val := c }).toArray) (clk' := c') hid hpl hx (by simpa using hmod) pc'
    refine ⟨_, r1, ?_⟩
    rw [Array.getElem?_toList] at e1
    have hkey' : ((xs[j0]?).map (·.key)).getD b = me.key := by rw [e1]; rfl
    simp only [Instr.mapUpdate, Sem.run_bind, run_underlying hu, Result.andThen_ok, getObj_map hx, check_run hkey (hkv hb), hf, hkey', e3.stays]
    rw [← r2]
    congr 2
    rw [show xs.modify j0 (fun e => { e with key := b, val := c }) = (xs.toList.modify j0 fun e => { e with key := b, val := c }).toArray by apply Array.toList_inj.1; simp]
  | none =>
   cases r with
   | some q0 => exact q1.elim
   | none =>
    obtain ⟨rfl, rfl⟩ := hnone rfl
    have hpush := he.push (k := k) (x := b) (b := clk) hb hc
    obtain ⟨r1, r2⟩ := hg.setM (es' := es ++ [(k, v, clk)]) (xs' := xs.push ⟨b, c, clk⟩) (clk' := clk + 1) hid hpl hx (by simpa using hpush) pc'
    refine ⟨_, r1, ?_⟩
    simp only [Instr.mapUpdate, Sem.run_bind, run_underlying hu, Result.andThen_ok, getObj_map hx, check_run hkey (hkv hb), hf]
    exact r2
 ·cases h2
theorem cutL_eq : ∀ (es : List (AV × AV × Nat)) (i : Nat), cutL es i = es.eraseIdx i
 | [], i => by simp [cutL]
 | e :: es, 0 => rfl
 | e :: es, i + 1 => by
  show e :: cutL es i = e :: es.eraseIdx i
  rw [cutL_eq es i]
theorem EntOk.erase {φ : List Pl} {es : List (AV × AV × Nat)} {ms : List MapEntry} (h : EntOk φ ρ es ms) : ∀ (i : Nat), EntOk φ ρ (es.eraseIdx i) (ms.eraseIdx i) := by
 induction h with
 | nil => intro i; simp; exact .nil
 | cons hk hv h ih =>
  intro i
  cases i with
  | zero => simpa using h
  | succ i => simpa using .cons hk hv (ih i)
theorem delE_inv {id : Nat} {es : List (AV × AV × Nat)} {c : Nat} {s : St} {κ : St → R} {r : Option (Nat × AV)} {pc : PC} (hD : delE id es c s κ r pc ∈ D) : ∃ es', κ ⟨s.hp.set id (.map es' c), s.nx, pc⟩ ∈ D ∧ (∀ j u, r = some (j, u) → es' = es.eraseIdx j) ∧ (r = none → es' = es) := by
 unfold delE at hD
 cases r with
 | some q => exact ⟨_, hD, (fun j u e => by cases e; exact cutL_eq _ _), fun e => by cases e⟩
 | none => exact ⟨_, hD, (fun j u e => by cases e), fun _ => rfl⟩
theorem mapDel_sound {T : TypeId} {s : St} {m k : AV} {κ : AV → St → R} {Ts : Array TypeId} (hT : Ts[0]? = some T) (hD : mapDel P T s m k κ ∈ D) : ∃ s', κ (.tup []) s' ∈ D ∧ PcExt s.pc s'.pc ∧ ∀ {w0 φ w a b}, Holds ρ s'.pc → Gm P ρ w0 φ s w → conc φ ρ m = some a → conc φ ρ k = some b → ∃ w', Gm P ρ w0 φ s' w' ∧ ∀ R', (Builtin.delete_ Ts R' #[a, b]).run P w = .ok (.tuple #[]) w' := by
 obtain ⟨p, hp, h1⟩ := optK_inv hD
 obtain ⟨key, hu, hkey⟩ := mapTyA_und hp
 obtain ⟨h2, hkv⟩ := keyOk_inv h1
 split at h2
 ·rename_i id
  obtain ⟨es, clk, hid, h3⟩ := mapK_inv h2
  obtain ⟨r, pc', h4, x1, h5⟩ := findK_inv h3
  obtain ⟨es', h6, hsome, hnone⟩ := delE_inv h4
  refine ⟨_, h6, x1, fun {w0 φ w a b} hρ hg ha hb => ?_⟩
  obtain ⟨pl, xs, hpl, hx, he⟩ := hg.hp.obj _ _ hid
  simp only [conc, hpl, Option.map_some, Option.some.injEq] at ha
  subst ha
  obtain ⟨r', q1, q2⟩ := h5 hρ hb he
  have hf := find_run (w := w) hkey (hkv hb) q2
  cases r' with
  | some q =>
   obtain ⟨j, y⟩ := q
   cases r with
   | none => exact q1.elim
   | some q0 =>
    obtain ⟨j0, u⟩ := q0
    obtain ⟨rfl, hy⟩ : j0 = j ∧ conc φ ρ u = some y := q1
    have := hsome _ _ rfl
    subst this
    obtain ⟨r1, r2⟩ := hg.setM (es' := es.eraseIdx j0) (xs' := xs.eraseIdxIfInBounds j0) (clk' := clk) hid hpl hx (by
     have := he.erase j0
     rw [Array.eraseIdxIfInBounds]
     split
     ·simpa using this
     ·rename_i hlt
      rw [List.eraseIdx_of_length_le (by rw [← he.length]; simpa using hlt)] at this ⊢
      rw [List.eraseIdx_of_length_le (by simpa using hlt)] at this
      exact this) pc'
    refine ⟨_, r1, fun R' => ?_⟩
    simp only [Builtin.delete_, hT, List.getElem?_toArray, List.getElem?_cons_zero, List.getElem?_cons_succ, Sem.run_bind, run_underlying hu, Result.andThen_ok, getObj_map hx, check_run hkey (hkv hb), hf, r2]
    rfl
  | none =>
   cases r with
   | some q0 => exact q1.elim
   | none =>
    have := hnone rfl
    subst this
    obtain ⟨r1, r2⟩ := hg.setM (es' := es') (xs' := xs) (clk' := clk) hid hpl hx he pc'
    refine ⟨_, r1, fun R' => ?_⟩
    simp only [Builtin.delete_, hT, List.getElem?_toArray, List.getElem?_cons_zero, List.getElem?_cons_succ, Sem.run_bind, run_underlying hu, Result.andThen_ok, getObj_map hx, check_run hkey (hkv hb), hf, r2]
    rfl
 ·refine ⟨s, h2, .refl _, fun {w0 φ w a b} hρ hg ha hb => ⟨w, hg, fun R' => ?_⟩⟩
  simp only [conc, Option.some.injEq] at ha
  subst ha
  simp only [Builtin.delete_, hT, List.getElem?_toArray, List.getElem?_cons_zero, List.getElem?_cons_succ, Sem.run_bind, run_underlying hu, Result.andThen_ok, check_run hkey (hkv hb)]
  rfl
 ·cases h2
theorem clear_sound {T : TypeId} {s : St} {x : AV} {κ : AV → St → R} {Ts : Array TypeId} (hT : Ts[0]? = some T) (hD : clearA P T s x κ ∈ D) : ∃ s', κ (.tup []) s' ∈ D ∧ s'.pc = s.pc ∧ ∀ {w0 φ w a}, Gm P ρ w0 φ s w → conc φ ρ x = some a → ∃ w', Gm P ρ w0 φ s' w' ∧ ∀ R', (Builtin.clear_ Ts R' #[a]).run P w = .ok (.tuple #[]) w' := by
 obtain ⟨d, hd, h1⟩ := optK_inv hD
 split at h1
 ·rename_i e
  have zero : ∀ {p : Option Addr} {c : Nat} {w : World} (R' : TypeId), (Builtin.clear_ Ts R' #[.slice p 0 c]).run P w = .ok (.tuple #[]) w := by
   intro p c w R'
   cases p <;> simp [Builtin.clear_, hT, Sem.run_bind, run_underlying hd]
  split at h1
  ·refine ⟨s, h1, rfl, fun {w0 φ w a} hg ha => ⟨w, hg, fun R' => ?_⟩⟩
   simp only [conc, Option.some.injEq] at ha
   subst ha
   simp [Builtin.clear_, hT, Sem.run_bind, run_underlying hd]
  ·refine ⟨s, h1, rfl, fun {w0 φ w a} hg ha => ⟨w, hg, fun R' => ?_⟩⟩
   simp only [conc, Option.map_eq_some_iff] at ha
   obtain ⟨p, _, rfl⟩ := ha
   split
   ·exact zero R'
   ·exact zero R'
  ·refine ⟨s, h1, rfl, fun {w0 φ w a} hg ha => ⟨w, hg, fun R' => ?_⟩⟩
   simp only [conc, Option.map_eq_some_iff] at ha
   obtain ⟨p, _, rfl⟩ := ha
   exact zero R'
  ·rename_i id off len cap
   rcases brec_cases h1 with ⟨hl, h2⟩ | ⟨hl, h2⟩
   ·rw [natBeq, decide_eq_true_eq] at hl
    have hl : len = 0 := hl
    subst hl
    refine ⟨s, h2, rfl, fun {w0 φ w a} hg ha => ⟨w, hg, fun R' => ?_⟩⟩
    obtain ⟨p, _, rfl⟩ := conc_sl ha
    exact zero R'
   ·rw [natBeq, decide_eq_false_iff_not] at hl
    have hl : len ≠ 0 := hl
    obtain ⟨z, hz, h3⟩ := optK_inv h2
    obtain ⟨zl, h4, hzl⟩ := cellsK_inv h3
    obtain ⟨s', h5, hpc, h6⟩ := stP_sound (P := P) (ρ := ρ) h4
    refine ⟨s', h5, hpc, fun {w0 φ w a} hg ha => ?_⟩
    obtain ⟨p, hpl, rfl⟩ := conc_sl ha
    obtain ⟨zv, hzr, hzc⟩ := zero_conc hz (w := w) (φ := φ) (ρ := ρ)
    have hcells := hzl hzc
    obtain ⟨w', r1, r2⟩ := h6 hg hpl (by rw [repL_eq]; exact repG_conc hcells len)
    refine ⟨w', r2, fun R' => ?_⟩
    have hzc0 : 0 < zv.cells.size ∨ len = 0 ∨ zv.cells.size = 0 := by omega
    have hrep : (Builtin.zeroCells zv.cells len).toList = repG zv.cells.toList len := by
     unfold Builtin.zeroCells
     rcases hzc0 with h | h | h
     ·rw [range_rep _ _ (.inl h)]
     ·rw [range_rep _ _ (.inr h)]
     ·have : zv.cells.toList = [] := by rw [← Array.length_toList] at h; exact List.length_eq_zero_iff.1 h
      rw [this, h]
      have : ∀ n, repG ([] : List Value) n = [] := fun n => by induction n with | zero => rfl | succ n ih => simp [repG, ih]
      simp [this]
    obtain ⟨len, rfl⟩ : ∃ m, len = m + 1 := ⟨len - 1, by omega⟩
    simp only [Builtin.clear_, hT, List.getElem?_toArray, List.getElem?_cons_zero, Sem.run_bind, run_underlying hd, Result.andThen_ok, hzr, hrep, r1]
    rfl
  ·cases h1
 ·cases h1
theorem newO_sound {s : St} {o : AObj} {κ : Nat → St → R} (hD : newO s o κ ∈ D) : ∃ s', κ s.nx s' ∈ D ∧ s'.pc = s.pc ∧ ∀ {w0 φ w x}, Gm P ρ w0 φ s w → (∀ φ' w', φ <+: φ' → φ'[s.nx]? = some ⟨w.heap.size, 0, 0, 1⟩ → w'.heap = w.heap.push x → ObjOk P φ' ρ w' s.nx o) →
  ∃ φ', φ <+: φ' ∧ φ'[s.nx]? = some ⟨w.heap.size, 0, 0, 1⟩ ∧ Gm P ρ w0 φ' s' { w with heap := w.heap.push x } := by
 obtain ⟨hp, nx, pc⟩ := s
 have hD : forceN nx (fun nx => κ nx ⟨hp.set nx o, Nat.succ nx, pc⟩) ∈ D := hD
 rw [forceN_eq] at hD
 refine ⟨_, hD, rfl, fun {w0 φ w x} hg ho => ?_⟩
 have hlen : φ.length = nx := hg.len
 have hnx : (φ ++ [(⟨w.heap.size, 0, 0, 1⟩ : Pl)])[nx]? = some ⟨w.heap.size, 0, 0, 1⟩ := by rw [← hlen]; simp
 refine ⟨_, pre_one _ _, hnx, (hg.push x).add (p := ⟨w.heap.size, 0, 0, 1⟩) hg.kp.size (by simp) (fun i o' q hi hl hq he => by have := (hg.lo i q hq).2; simp only at he; omega) (ho _ _ (pre_one _ _) hnx rfl) pc (fun x hx => Nat.ne_of_gt (hg.fr x hx).1)⟩
theorem range_sound {T : TypeId} {s : St} {x : AV} {κ : AV → St → R} (hD : rangeA P T s x κ ∈ D) : ∃ v s', κ v s' ∈ D ∧ s'.pc = s.pc ∧ ∀ {w0 φ w a}, Gm P ρ w0 φ s w → conc φ ρ x = some a → ∃ φ' y w', φ <+: φ' ∧ conc φ' ρ v = some y ∧ Gm P ρ w0 φ' s' w' ∧ (Instr.range T a).run P w = .ok y w' := by
 obtain ⟨d, hd, h1⟩ := optK_inv hD
 split at h1
 ·rename_i K E
  split at h1
  ·rename_i id
   obtain ⟨es, c, hid, h2⟩ := mapK_inv h1
   obtain ⟨s', h3, hpc, h4⟩ := newO_sound (P := P) (ρ := ρ) h2
   refine ⟨_, s', h3, hpc, fun {w0 φ w a} hg ha => ?_⟩
   obtain ⟨pl, xs, hpl, hx, he⟩ := hg.hp.obj _ _ hid
   simp only [conc, hpl, Option.map_some, Option.some.injEq] at ha
   subst ha
   obtain ⟨φ', q1, q2, q3⟩ := h4 (x := .mapIter (some pl.blk) c #[] c) hg (fun φ' w' p1 p2 p3 => ⟨_, some pl.blk, p2, rfl, ⟨pl, pl_mono p1 hpl, rfl⟩, by rw [p3]; simp⟩)
   refine ⟨φ', .pointer (some ⟨w.heap.size, 0, none⟩), _, q1, by simp [conc, q2], q3, ?_⟩
   simp only [Instr.range, Sem.run_bind, run_underlying hd, Result.andThen_ok, getObj_map hx]
   simp [newObj, Sem.run]
  ·obtain ⟨s', h3, hpc, h4⟩ := newO_sound (P := P) (ρ := ρ) h1
   refine ⟨_, s', h3, hpc, fun {w0 φ w a} hg ha => ?_⟩
   simp only [conc, Option.some.injEq] at ha
   subst ha
   obtain ⟨φ', q1, q2, q3⟩ := h4 (x := .mapIter none 0 #[] 0) hg (fun φ' w' p1 p2 p3 => ⟨_, none, p2, rfl, trivial, by rw [p3]; simp⟩)
   refine ⟨φ', .pointer (some ⟨w.heap.size, 0, none⟩), _, q1, by simp [conc, q2], q3, ?_⟩
   simp only [Instr.range, Sem.run_bind, run_underlying hd, Result.andThen_ok]
   simp [newObj, Sem.run]
  ·cases h1
 ·cases h1
theorem memN_eq (n : Nat) : ∀ (l : List Nat), memN n l = l.contains n
 | [] => rfl
 | m :: l => by
  show Bool.rec (motive := fun _ => Bool) (memN n l) true (Nat.beq m n) = _
  rw [natBeq, memN_eq n l]
  by_cases h : m = n
  ·simp [h]
  ·have h' : (n == m) = false := by simpa using fun e => h e.symm
   simp only [h, decide_false]
   rw [List.contains_cons, h', Bool.false_or]
theorem EntOk.left {φ : List Pl} {seen : List Nat} {es : List (AV × AV × Nat)} {ms : List MapEntry} (h : EntOk φ ρ es ms) : EntOk φ ρ (leftL seen es) (ms.filter fun e => !seen.contains e.born) := by
 induction h with
 | nil => exact .nil
 | @cons k v b l x y m hk hv h ih =>
  show EntOk φ ρ (Bool.rec (motive := fun _ => List (AV × AV × Nat)) ((k, v, b) :: leftL seen l) (leftL seen l) (memN b seen)) _
  rw [memN_eq]
  cases hc : seen.contains b with
  | true => simp only [List.filter_cons, hc, Bool.not_true, Bool.false_eq_true, if_false]; exact ih
  | false => simp only [List.filter_cons, hc, Bool.not_false, if_true]; exact .cons hk hv ih
theorem EntOk.late {φ : List Pl} {last : Nat} {es : List (AV × AV × Nat)} {ms : List MapEntry} (h : EntOk φ ρ es ms) : allLate last es = ms.all fun e => decide (e.born ≥ last) := by
 induction h with
 | nil => rfl
 | @cons k v b l x y m hk hv h ih =>
  show (Nat.ble last b && allLate last l) = _
  rw [natBle, ih]
  rfl
theorem EntOk.gone {φ : List Pl} {seen : List Nat} {last : Nat} {es : List (AV × AV × Nat)} {xs : Array MapEntry} (h : EntOk φ ρ es xs.toList) : (!seen.toArray.isEmpty && !xs.isEmpty && xs.all fun e => decide (e.born ≥ last)) = goneB seen last es := by
 rw [← Array.all_toList, ← h.late]
 have hx : xs.isEmpty = es.isEmpty := by
  have := h.length
  cases es <;> cases hh : xs.toList <;> simp [hh] at this
  ·have : xs = #[] := by apply Array.toList_inj.1; simpa using hh
   simp [this]
  ·have : xs ≠ #[] := by intro e; rw [e] at hh; simp at hh
   simpa using this
 rw [hx]
 cases seen <;> cases es <;> simp [goneB, allLate]
theorem run_choose_one {w : World} : (choose (.mapNext 1)).run P w = .ok 0 w := by
 simp [choose, Sem.run, Question.forced]
theorem nextI_sound {id : Nat} {s : St} {κ : AV → St → R} {o : AObj} (hid : s.hp.get id = some o) (hD : nextI id s κ o ∈ D) : ∃ v s', κ v s' ∈ D ∧ s'.pc = s.pc ∧ ∀ {w0 φ w p}, Gm P ρ w0 φ s w → φ[id]? = some p → ∃ y w', conc φ ρ v = some y ∧ Gm P ρ w0 φ s' w' ∧ ∀ T, (Instr.next (.pointer (some ⟨p.blk, p.sh, none⟩)) false T).run P w = .ok y w' := by
 unfold nextI at hD
 split at hD
 ·rename_i m since seen last
  split at hD
  ·refine ⟨_, s, hD, rfl, fun {w0 φ w p} hg hp => ⟨.tuple #[.bool false], w, by simp [conc, concL, SB.ev], hg, fun T => ?_⟩⟩
   obtain ⟨p', m', h1, h2, h3, h4⟩ := hg.hp.obj _ _ hid
   rw [hp] at h1; cases h1
   cases m' with
   | some b => exact h3.elim
   | none => simp [Instr.next, h2, Sem.run_bind, getObj, Sem.run, h4]
  ·rename_i i
   obtain ⟨es, c, hi, h1⟩ := mapK_inv hD
   rcases brec_cases h1 with ⟨_, h2⟩ | ⟨hgone, h2⟩
   ·cases h2
   have facts : ∀ {w0 φ w p}, Gm P ρ w0 φ s w → φ[id]? = some p → p.sh = 0 ∧ ∃ q xs, φ[i]? = some q ∧ w.heap[p.blk]? = some (.mapIter (some q.blk) since seen.toArray last) ∧ w.heap[q.blk]? = some (.map xs c) ∧ EntOk φ ρ es xs.toList := by
    intro w0 φ w p hg hp
    obtain ⟨p', m', k1, k2, k3, k4⟩ := hg.hp.obj _ _ hid
    rw [hp] at k1; cases k1
    cases m' with
    | none => exact k3.elim
    | some b =>
     obtain ⟨q, hq, rfl⟩ := k3
     obtain ⟨q', xs, j1, j2, j3⟩ := hg.hp.obj _ _ hi
     rw [hq] at j1; cases j1
     exact ⟨k2, q, xs, hq, k4, j2, j3⟩
   unfold nextE at h2
   split at h2
   ·rename_i hl
    refine ⟨_, s, h2, rfl, fun {w0 φ w p} hg hp => ⟨.tuple #[.bool false], w, by simp [conc, concL, SB.ev], hg, fun T => ?_⟩⟩
    obtain ⟨hs0, q, xs, hq, k4, j2, he⟩ := facts hg hp
    have hleft := he.left (seen := seen)
    rw [hl] at hleft
    have hf : (xs.filter fun e => !seen.toArray.contains e.born) = #[] := by
     apply Array.toList_inj.1
     rw [Array.toList_filter]
     generalize hm : xs.toList.filter (fun e => !seen.contains e.born) = ms at hleft
     cases hleft
     simpa using hm
    have hgo := he.gone (seen := seen) (last := last)
    rw [hgone] at hgo
    simp only [Instr.next, hs0, Sem.run_bind, getObj, Sem.run, k4, j2, Result.andThen_ok, hgo, hf]
    simp [run_choose_one, Sem.run_bind, Question.forced]
   ·rename_i e hl
    obtain ⟨hb, h3⟩ := brec_inv h2
    rw [natBlt, decide_eq_true_eq] at hb
    refine ⟨_, _, h3, rfl, fun {w0 φ w p} hg hp => ?_⟩
    obtain ⟨hs0, q, xs, hq, k4, j2, he⟩ := facts hg hp
    have hleft := he.left (seen := seen)
    rw [hl] at hleft
    obtain ⟨ek, evv, eb⟩ := e
    generalize hm : xs.toList.filter (fun e => !seen.contains e.born) = ms at hleft
    cases hleft with
    | @cons _ _ _ _ x y ms hk hv ht =>
    cases ht
    have hf : (xs.filter fun e => !seen.toArray.contains e.born) = #[⟨x, y, eb⟩] := by
     apply Array.toList_inj.1
     rw [Array.toList_filter]
     simpa using hm
    have hgo := he.gone (seen := seen) (last := last)
    rw [hgone] at hgo
    have hb : eb < since := hb
    have hset : (setObj p.blk (.mapIter (some q.blk) since (seen.toArray.push eb) c)).run P w = .ok () { w with heap := w.heap.setIfInBounds p.blk (.mapIter (some q.blk) since (seen.toArray.push eb) c) } := setObj_any k4 (by simp)
    refine ⟨.tuple #[.bool true, x, y], { w with heap := w.heap.setIfInBounds p.blk (.mapIter (some q.blk) since (seen.toArray.push eb) c) }, by simp [conc, concL, SB.ev, hk, hv], hg.setO (x := .mapIter (some q.blk) since (seen.toArray.push eb) c) (o' := .iter (some i) since (seen ++ [eb]) c) hid rfl hp ⟨p, some q.blk, hp, hs0, ⟨q, hq, rfl⟩, by simp [(hg.lo id p hp).2]⟩ s.pc, fun T => ?_⟩
    simp only [Instr.next, hs0, Sem.run_bind, getObj, Sem.run, k4, j2, Result.andThen_ok, hgo, hf]
    have f1 : (#[(⟨x, y, eb⟩ : MapEntry)].filter fun e => decide (e.born < since)) = #[⟨x, y, eb⟩] := by simp [hb]
    have f2 : (#[(⟨x, y, eb⟩ : MapEntry)].filter fun e => decide (e.born ≥ since)) = #[] := by simp; omega
    simp only [f1, f2]
    simp only [List.push_toArray] at hset ⊢
    simp [run_choose_one, Sem.run_bind, Question.forced, hset]
   ·cases h2
 ·cases hD
theorem next_sound {str : Bool} {s : St} {x : AV} {κ : AV → St → R} (hD : nextA str s x κ ∈ D) : ∃ v s', κ v s' ∈ D ∧ s'.pc = s.pc ∧ ∀ {w0 φ w a}, Gm P ρ w0 φ s w → conc φ ρ x = some a → ∃ y w', conc φ ρ v = some y ∧ Gm P ρ w0 φ s' w' ∧ ∀ T, (Instr.next a str T).run P w = .ok y w' := by
 obtain ⟨id, off, rfl, h1⟩ := ptrV_inv hD
 obtain ⟨hb, h2⟩ := brec_inv h1
 simp only [Bool.and_eq_true, notF_eq, Bool.not_eq_true', natBeq, decide_eq_true_eq] at hb
 obtain ⟨rfl, hoff⟩ := hb
 have hoff : off = 0 := hoff
 subst hoff
 obtain ⟨o, ho, h3⟩ := optK_inv h2
 obtain ⟨v, s', h4, hpc, h5⟩ := nextI_sound (P := P) (ρ := ρ) ho h3
 refine ⟨v, s', h4, hpc, fun {w0 φ w a} hg ha => ?_⟩
 obtain ⟨p, hp, rfl⟩ := conc_ptr ha
 exact h5 hg hp
end
end Go.Proofs.YtooebogidjejoaaGreat
namespace Go.Proofs.YtooebogidjejoaaGreat
open Go
section
variable {P : Program} {ρ : Nat → Int} {w0 : Base} {D : Dn}
def CallsOr (P : Program) (f : FuncId) (xs : Array Value) (w : World) (Q : Value → World → Prop) : Prop :=
 ((callFunc f xs).run P w = .ok (.enter f xs) w ∧ Calls P f xs w fun e w' => ∃ x, e = .returned x ∧ Q x w') ∨ ∃ x w', (callFunc f xs).run P w = .ok (.value x) w' ∧ Q x w'
def CallSound (P : Program) (ρ : Nat → Int) (call : CallT) : Prop := ∀ {f : FuncId} {args : List AV} {s : St} {κ : AV → St → R} {D : Dn}, call f args s κ ∈ D → ∃ v s', κ v s' ∈ D ∧ PcExt s.pc s'.pc ∧ ∀ {w0 φ w xs}, Holds ρ s'.pc → concL φ ρ args = some xs → Gm P ρ w0 φ s w →
 CallsOr P f xs.toArray w fun x w' => ∃ φ', φ <+: φ' ∧ conc φ' ρ v = some x ∧ Gm P ρ w0 φ' s' w'
def OpO (P : Program) (ρ : Nat → Int) (w0 : Base) (φ : List Pl) (a : Act) (w : World) (s' : St) (op : Op) (v : AV) : Prop :=
 ∀ o : Oper, o.op = op → ∀ (next : Act → World → Prop) (Q : Exit → Act → World → Prop), (∀ φ' x w', φ <+: φ' → conc φ' ρ v = some x → Gm P ρ w0 φ' s' w' → next (a.put o.dst x) w') → o.wp P a w next Q
theorem EffO.opO {φ : List Pl} {a : Act} {w : World} {s' : St} {op : Op} {v : AV} (h : EffO P ρ w0 φ a w s' op v) : OpO P ρ w0 φ a w s' op v := by
 intro o ho next Q hn
 obtain ⟨φ', x, w', h1, h2, h3, h4⟩ := h
 unfold Oper.wp
 rcases h4 o ho with h | ⟨h, rfl⟩
 ·rw [h]; exact hn φ' x w' h1 h2 h3
 ·rw [h]; exact hn φ' undef w' h1 h2 h3
theorem quietK_sound {s : St} {t : Ts} {op : Op} {κ : AV → St → R} (hD : quietK P s t op κ ∈ D) : ∃ v s', κ v s' ∈ D ∧ PcExt s.pc s'.pc ∧ ∀ {w0 φ sz a w}, Holds ρ s'.pc → GA φ ρ t sz a → Gm P ρ w0 φ s w → OpO P ρ w0 φ a w s' op v := by
 unfold quietK at hD
 obtain ⟨hp, nx, pc⟩ := s
 obtain ⟨v, pc', h1, hx, h2⟩ := evQ_sound (show evQ P hp t pc op (fun v pc => κ v ⟨hp, nx, pc⟩) ∈ D from hD)
 refine ⟨v, _, h1, hx, fun {w0 φ sz a w} hρ hg hm => EffO.opO ?_⟩
 obtain ⟨x, h3, h4⟩ := h2 hρ hg hm.hp
 exact ⟨φ, x, w, List.prefix_refl _, h3, hm.pc pc', fun o ho => .inl (h4 o ho)⟩
theorem fnV_inv {v : AV} {κ : FuncId → List AV → List AV → R} (hD : fnV v κ ∈ D) : ∃ g a b, v = .fn (.func g) a b ∧ κ g a b ∈ D := by
 cases v
 case fn f a b =>
  cases f with
  | func g => exact ⟨g, a, b, rfl, hD⟩
  | _ => cases hD
 all_goals cases hD
theorem ifaceV_inv {v : AV} {κ : TypeId → AV → R} (hD : ifaceV v κ ∈ D) : ∃ t y, v = .iface t y ∧ κ t y ∈ D := by
 unfold ifaceV at hD
 split at hD
 ·exact ⟨_, _, rfl, hD⟩
 ·cases hD
theorem meth_run {t : TypeId} {name : String} {f : FuncId} (h : methA P t name = some f) {v : Value} {args : Array Value} {w : World} :
  (invoke (.fn (.method name) #[]) (#[.iface t v] ++ args)).run P w = (callFunc f (#[v] ++ args)).run P w := by
 unfold methA at h
 split at h
 ·rename_i i hi
  split at h
  ·rename_i m hm
   split at h
   ·rename_i hp
    split at h
    ·rename_i g pr hfn
     have key : ∀ {e : TypeDesc}, P.underlying t = some e → (match e with | .pointer _ => pr = true | _ => pr = false) → (method (P.types.size + Made.depth) t v name).run P w = .ok (g, v) w := by
      intro e hu he
      have h0 : 0 < Made.depth := by decide
      have hfuel : ∃ n, P.types.size + Made.depth = n + 1 := ⟨P.types.size + Made.depth - 1, by omega⟩
      obtain ⟨n, hn⟩ := hfuel
      rw [hn, method]
      simp only [Sem.run_bind, run_typeInfo w hi, Result.andThen_ok, hm, hp, follow, hfn]
      cases e <;> simp only at he <;> subst he <;> simp [receiverAt, Sem.run_bind, run_underlying hu, Place.get]
     have fin : g = f → (method (P.types.size + Made.depth) t v name).run P w = .ok (g, v) w → (invoke (.fn (.method name) #[]) (#[.iface t v] ++ args)).run P w = (callFunc f (#[v] ++ args)).run P w := by
      rintro rfl hk
      have h0 : (#[Value.iface t v] ++ args)[0]? = some (.iface t v) := by rw [Array.getElem?_append_left (by simp)]; rfl
      have h1 : (#[Value.iface t v] ++ args).extract 1 (#[Value.iface t v] ++ args).size = args := by
       apply Array.toList_inj.1
       simp
      simp only [invoke, h0, h1, callMethod, Sem.run_bind, run_program, Result.andThen_ok, hk]
     split at h
     ·rename_i e hu
      cases pr with
      | false => cases h
      | true => exact fin (Option.some.inj h) (key hu rfl)
     ·rename_i d hne hu
      cases pr with
      | true => cases h
      | false => exact fin (Option.some.inj h) (key hu (by cases d <;> first | rfl | exact (hne _ rfl).elim))
     ·cases h
    ·cases h
   ·cases h
  ·cases h
 ·cases h
theorem fieldPlace_ok {T : TypeId} {f o : Nat} (ho : fieldPlaceA P T f = some o) : ∃ fs fd, P.underlying T = some (.struct fs) ∧ fs[f]? = some fd ∧ ∀ (b off : Nat) (w : World), (fieldPlace ⟨b, off, none⟩ fd).run P w = .ok ⟨b, off + o, none⟩ w := by
 unfold fieldPlaceA at ho
 split at ho
 ·rename_i o' t hf
  obtain ⟨fs, fd, hu, hfd, he⟩ := fieldA_und hf
  cases he
  split at ho
  ·rename_i n hn
   have hn0 : n ≠ 0 ∧ fd.offset = o := by
    rw [natBeq] at ho
    by_cases e : n = 0
    ·simp [e] at ho
    ·simp [e] at ho; exact ⟨e, ho⟩
   obtain ⟨hn0, rfl⟩ := hn0
   refine ⟨fs, fd, hu, hfd, fun b off w => ?_⟩
   simp [fieldPlace, Sem.run_bind, run_size hn, hn0, add_plain]
  ·cases ho
 ·cases ho
theorem methB_run {t : TypeId} {name : String} {b : FuncId × TypeId × Nat} (h : methB P t name = some b) {o : Nat} (ho : fieldPlaceA P b.2.1 b.2.2 = some o) {blk off : Nat} {args : Array Value} {w : World} :
  (invoke (.fn (.method name) #[]) (#[.iface t (.pointer (some ⟨blk, off, none⟩))] ++ args)).run P w = (callFunc b.1 (#[.pointer (some ⟨blk, off + o, none⟩)] ++ args)).run P w := by
 unfold methB at h
 split at h
 ·rename_i i hi
  split at h
  ·rename_i m hm
   split at h
   ·rename_i st hp
    split at h
    ·rename_i g hfn
     split at h
     ·rename_i x ft hff
      split at h
      ·cases h
      ·rename_i d hne hu
       cases hd : st.deref with
       | false => rw [hd] at h; cases h
       | true =>
        rw [hd] at h
        cases Option.some.inj h
        obtain ⟨fs, fd, hus, hfd, hpl⟩ := fieldPlace_ok ho
        obtain ⟨fs', fd', hus', hfd', he⟩ := fieldA_und hff
        rw [hus] at hus'; cases hus'
        rw [hfd] at hfd'; cases hfd'
        cases he
        have h0 : 0 < Made.depth := by decide
        have hfuel : ∃ n, P.types.size + Made.depth = n + 1 := ⟨P.types.size + Made.depth - 1, by omega⟩
        obtain ⟨n, hn⟩ := hfuel
        have hmeth : (method (P.types.size + Made.depth) t (.pointer (some ⟨blk, off, none⟩)) name).run P w = .ok (g, .pointer (some ⟨blk, off + o, none⟩)) w := by
         rw [hn, method]
         simp only [Sem.run_bind, run_typeInfo w hi, Result.andThen_ok, hm, hp, follow, hfn, run_underlying hus, hfd, hd, if_true, Place.get, asAddr, Sem.run_pure, hpl]
         cases d <;> first | exact (hne _ rfl).elim | simp [receiverAt, Sem.run_bind, run_underlying hu]
        have k0 : (#[Value.iface t (.pointer (some ⟨blk, off, none⟩))] ++ args)[0]? = some (.iface t (.pointer (some ⟨blk, off, none⟩))) := by rw [Array.getElem?_append_left (by simp)]; rfl
        have k1 : (#[Value.iface t (.pointer (some ⟨blk, off, none⟩))] ++ args).extract 1 (#[Value.iface t (.pointer (some ⟨blk, off, none⟩))] ++ args).size = args := by
         apply Array.toList_inj.1
         simp
        simp only [invoke, k0, k1, callMethod, Sem.run_bind, run_program, Result.andThen_ok, hmeth]
      ·cases h
     ·cases h
    ·cases h
   ·cases h
  ·cases h
 ·cases h
theorem CallsOr.upon {f : FuncId} {xs : Array Value} {w : World} {φ : List Pl} {v : AV} {s' : St} (q : CallsOr P f xs w fun x w' => ∃ φ', φ <+: φ' ∧ conc φ' ρ v = some x ∧ Gm P ρ w0 φ' s' w') {o : Oper} {a : Act} {m : Sem Next} (hm : m.run P w = (callFunc f xs).run P w) {next : Act → World → Prop} {Q : Exit → Act → World → Prop}
  (hn : ∀ φ' x w', φ <+: φ' → conc φ' ρ v = some x → Gm P ρ w0 φ' s' w' → next (a.put o.dst x) w') : o.upon P a next Q (m.run P w) := by
 rw [hm]
 rcases q with ⟨q1, q2⟩ | ⟨x, w', q1, φ', r1, r2, r3⟩
 ·rw [q1, Oper.upon_enter]
  refine q2.mono fun e w' he => ?_
  obtain ⟨x, rfl, φ', r1, r2, r3⟩ := he
  exact hn φ' x w' r1 r2 r3
 ·rw [q1]
  exact hn φ' x w' r1 r2 r3
theorem evOp_sound {call : CallT} (hc : CallSound P ρ call) {s : St} {t : Ts} {op : Op} {κ : AV → St → R} (hD : evOp P call s t κ op ∈ D) : ∃ v s', κ v s' ∈ D ∧ PcExt s.pc s'.pc ∧ ∀ {w0 φ sz a w}, Holds ρ s'.pc → GA φ ρ t sz a → Gm P ρ w0 φ s w → OpO P ρ w0 φ a w s' op v := by
 have pcx : ∀ {s s' : St}, s'.pc = s.pc → PcExt s.pc s'.pc := fun h => by rw [h]; exact .refl _
 cases op
 case alloc T =>
  obtain ⟨v, s', h1, hpc, h2⟩ := alloc_sound (P := P) (ρ := ρ) (show allocA P T s κ ∈ D from hD)
  exact ⟨v, s', h1, pcx hpc, fun {w0 φ sz a w} _ hg hm => (h2 hm).opO⟩
 case box T x =>
  obtain ⟨u, h0, hu⟩ := opd_inv (show opd t x (fun v => boxA T v s κ) ∈ D from hD)
  obtain ⟨v, s', h1, hpc, h2⟩ := box_sound (P := P) (ρ := ρ) h0
  refine ⟨v, s', h1, pcx hpc, fun {w0 φ sz a w} _ hg hm => ?_⟩
  obtain ⟨φ', y, w', r1, r2, r3, r4⟩ := h2 hm (hu hg)
  exact (EffO.of r1 r2 r3 r4 fun o ho => by unfold execOp; simp only [ho]).opO
 case buildSlice T n parts =>
  obtain ⟨v, s', h1, hpc, h2⟩ := buildS_sound (P := P) (ρ := ρ) (show buildS P T n t parts s κ ∈ D from hD)
  exact ⟨v, s', h1, pcx hpc, fun {w0 φ sz a w} _ hg hm => (h2 hg hm).opO⟩
 case makeSlice T l c =>
  obtain ⟨u, h0, hu⟩ := opd_inv (show opd t l (fun l => opd t c fun c => makeX P T l c s κ) ∈ D from hD)
  obtain ⟨u', h0', hu'⟩ := opd_inv h0
  obtain ⟨v, s', h1, hpc, h2⟩ := makeX_sound (P := P) (ρ := ρ) h0'
  refine ⟨v, s', h1, pcx hpc, fun {w0 φ sz a w} hρ hg hm => ?_⟩
  obtain ⟨φ', y, w', r1, r2, r3, r4⟩ := h2 (by rw [← hpc]; exact hρ.rg) hm (hu hg) (hu' hg)
  exact (EffO.of r1 r2 r3 r4 fun o ho => by unfold execOp; simp only [ho]).opO
 case store T x y =>
  obtain ⟨u, h0, hu⟩ := opd_inv (show opd t x (fun a => opd t y fun v => storeA P T s a v (skipK κ)) ∈ D from hD)
  obtain ⟨u', h0', hu'⟩ := opd_inv h0
  obtain ⟨s', h1, hpc, h2⟩ := store_sound (P := P) (ρ := ρ) h0'
  refine ⟨undefA, s', h1, pcx hpc, fun {w0 φ sz a w} _ hg hm => ?_⟩
  obtain ⟨w', r1, r2⟩ := h2 hm (hu hg) (hu' hg)
  exact (EffO.ofU (List.prefix_refl _) r2 r1 fun o ho => by unfold execOp; simp only [ho]).opO
 case makeMap T r =>
  have hD : mkMap s κ r ∈ D := hD
  unfold mkMap at hD
  split at hD
  ·obtain ⟨v, s', h1, hpc, h2⟩ := mapNew_sound (P := P) (ρ := ρ) (T := T) hD
   exact ⟨v, s', h1, pcx hpc, fun {w0 φ sz a w} _ hg hm => (h2 hm).opO⟩
  ·cases hD
 case mapUpdate T m k x =>
  obtain ⟨u, h0, hu⟩ := opd_inv (show opd t m (fun m => opd t k fun k => opd t x fun v => mapSet P T s m k v (skipK κ)) ∈ D from hD)
  obtain ⟨u', h0', hu'⟩ := opd_inv h0
  obtain ⟨u2, h02, hu2⟩ := opd_inv h0'
  obtain ⟨s', h1, hpc, h2⟩ := mapSet_sound (P := P) (ρ := ρ) h02
  refine ⟨undefA, s', h1, hpc, fun {w0 φ sz a w} hρ hg hm => ?_⟩
  obtain ⟨w', r1, r2⟩ := h2 hρ hm (hu hg) (hu' hg) (hu2 hg)
  exact (EffO.ofU (List.prefix_refl _) r1 r2 fun o ho => by unfold execOp; simp only [ho]).opO
 case insert T m k x =>
  obtain ⟨u, h0, hu⟩ := opd_inv (show opd t m (fun m => opd t k fun k => opd t x fun v => mapSet P T s m k v (skipK κ)) ∈ D from hD)
  obtain ⟨u', h0', hu'⟩ := opd_inv h0
  obtain ⟨u2, h02, hu2⟩ := opd_inv h0'
  obtain ⟨s', h1, hpc, h2⟩ := mapSet_sound (P := P) (ρ := ρ) h02
  refine ⟨undefA, s', h1, hpc, fun {w0 φ sz a w} hρ hg hm => ?_⟩
  obtain ⟨w', r1, r2⟩ := h2 hρ hm (hu hg) (hu' hg) (hu2 hg)
  exact (EffO.ofU (List.prefix_refl _) r1 r2 fun o ho => by unfold execOp; simp only [ho]).opO
 case convert src dst x =>
  have hD : cvt P s t κ src dst x ∈ D := hD
  unfold cvt at hD
  split at hD
  ·exact quietK_sound hD
  ·rcases brec_cases hD with ⟨_, hD⟩ | ⟨_, hD⟩
   ·exact quietK_sound hD
   obtain ⟨u, h0, hu⟩ := opd_inv hD
   obtain ⟨v, s', h1, hpc, h2⟩ := convE_sound (P := P) (ρ := ρ) h0
   refine ⟨v, s', h1, pcx hpc, fun {w0 φ sz a w} _ hg hm => ?_⟩
   obtain ⟨φ', y, w', r1, r2, r3, r4⟩ := h2 hm (hu hg)
   exact (EffO.of r1 r2 r3 r4 fun o ho => by unfold execOp; simp only [ho]).opO
 case call c =>
  have hD : calE P call s t κ c ∈ D := hD
  unfold calE at hD
  split at hD
  ·rename_i f hf
   obtain ⟨u, h0, hu⟩ := opd_inv hD
   obtain ⟨vs, h1, _, hvs⟩ := opds_inv h0
   obtain ⟨g, la, lb, rfl, h1⟩ := fnV_inv h1
   obtain ⟨v, s', h2, hx, h3⟩ := hc h1
   refine ⟨v, s', h2, hx, fun {w0 φ sz a w} hρ hg hm o ho next Q hn => ?_⟩
   have hfv := hu hg
   simp only [conc, Option.bind_eq_some_iff, Option.map_eq_some_iff] at hfv
   obtain ⟨xa, hxa, xb, hxb, hfe⟩ := hfv
   have hargs := hvs hg
   have q := h3 (w := w) hρ (concL_append.2 ⟨_, _, hxa, concL_append.2 ⟨_, _, hargs, hxb, rfl⟩, rfl⟩) hm
   refine q.upon (m := execOp a.eval o) ?_ hn
   unfold execOp
   simp only [ho, Sem.run_bind, resolve, hf, ← hfe, Deferred.ofValue, Sem.run_pure, Result.andThen_ok, invoke]
   congr 2
   apply Array.toList_inj.1
   simp
  ·rename_i b hb
   unfold blt2 at hD
   split at hD
   ·obtain ⟨vs, h1, _, hvs⟩ := opds_inv hD
    split at h1
    ·rename_i x y
     obtain ⟨v, s', h2, hpc, h3⟩ := appX_sound (P := P) (ρ := ρ) h1
     refine ⟨v, s', h2, hpc, fun {w0 φ sz a w} hρ hg hm => EffO.opO ?_⟩
     obtain ⟨xa, ys, e1, e2, e3⟩ := concL_cons.1 (hvs hg)
     obtain ⟨xb, ys', e4, e5, e6⟩ := concL_cons.1 e2
     simp only [concL, Option.some.injEq] at e5
     subst e5; subst e6
     obtain ⟨φ', z, w', r1, r2, r3, r4⟩ := h3 hρ hm e1 e4
     refine ⟨φ', z, w', r1, r2, r3, fun o ho => .inl ?_⟩
     have hargs : c.args.map a.eval = #[xa, xb] := by apply Array.toList_inj.1; simp [e3]
     unfold execOp
     simp only [ho, Sem.run_bind, resolve, hb, Sem.run_pure, Result.andThen_ok, invoke, builtin, hargs, r4]
    ·cases h1
   ·obtain ⟨vs, h1, _, hvs⟩ := opds_inv hD
    split at h1
    ·rename_i x y
     obtain ⟨T, hT, h2⟩ := optK_inv h1
     obtain ⟨v, s', h3, hpc, h4⟩ := copyX_sound (P := P) (ρ := ρ) hT h2
     refine ⟨v, s', h3, hpc, fun {w0 φ sz a w} hρ hg hm => EffO.opO ?_⟩
     obtain ⟨xa, ys, e1, e2, e3⟩ := concL_cons.1 (hvs hg)
     obtain ⟨xb, ys', e4, e5, e6⟩ := concL_cons.1 e2
     simp only [concL, Option.some.injEq] at e5
     subst e5; subst e6
     obtain ⟨z, w', r2, r3, r4⟩ := h4 hρ hm e1 e4
     refine ⟨φ, z, w', List.prefix_refl _, r2, r3, fun o ho => .inl ?_⟩
     have hargs : c.args.map a.eval = #[xa, xb] := by apply Array.toList_inj.1; simp [e3]
     unfold execOp
     simp only [ho, Sem.run_bind, resolve, hb, Sem.run_pure, Result.andThen_ok, invoke, builtin, hargs, r4]
    ·cases h1
   ·obtain ⟨vs, h1, _, hvs⟩ := opds_inv hD
    split at h1
    ·rename_i x y
     obtain ⟨T, hT, h2⟩ := optK_inv h1
     obtain ⟨s', h3, hpc, h4⟩ := mapDel_sound (P := P) (ρ := ρ) hT h2
     refine ⟨_, s', h3, hpc, fun {w0 φ sz a w} hρ hg hm => EffO.opO ?_⟩
     obtain ⟨xa, ys, e1, e2, e3⟩ := concL_cons.1 (hvs hg)
     obtain ⟨xb, ys', e4, e5, e6⟩ := concL_cons.1 e2
     simp only [concL, Option.some.injEq] at e5
     subst e5; subst e6
     obtain ⟨w', r3, r4⟩ := h4 hρ hm e1 e4
     refine ⟨φ, .tuple #[], w', List.prefix_refl _, rfl, r3, fun o ho => .inl ?_⟩
     have hargs : c.args.map a.eval = #[xa, xb] := by apply Array.toList_inj.1; simp [e3]
     unfold execOp
     simp only [ho, Sem.run_bind, resolve, hb, Sem.run_pure, Result.andThen_ok, invoke, builtin, hargs, r4]
    ·cases h1
   ·obtain ⟨vs, h1, _, hvs⟩ := opds_inv hD
    split at h1
    ·rename_i x
     obtain ⟨T, hT, h2⟩ := optK_inv h1
     obtain ⟨s', h3, hpc, h4⟩ := clear_sound (P := P) (ρ := ρ) hT h2
     refine ⟨_, s', h3, pcx hpc, fun {w0 φ sz a w} _ hg hm => EffO.opO ?_⟩
     obtain ⟨xa, ys, e1, e2, e3⟩ := concL_cons.1 (hvs hg)
     simp only [concL, Option.some.injEq] at e2
     subst e2
     obtain ⟨w', r3, r4⟩ := h4 hm e1
     refine ⟨φ, .tuple #[], w', List.prefix_refl _, rfl, r3, fun o ho => .inl ?_⟩
     have hargs : c.args.map a.eval = #[xa] := by apply Array.toList_inj.1; simp [e3]
     unfold execOp
     simp only [ho, Sem.run_bind, resolve, hb, Sem.run_pure, Result.andThen_ok, invoke, builtin, hargs, r4]
    ·cases h1
   ·exact quietK_sound hD
  ·rename_i rv name hb
   obtain ⟨u, h0, hu⟩ := opd_inv hD
   obtain ⟨vs, h1, _, hvs⟩ := opds_inv h0
   unfold callM at h1
   obtain ⟨T, y, rfl, h1'⟩ := ifaceV_inv h1
   split at h1'
   ·rename_i f hf
    obtain ⟨v, s', h2, hx, h3⟩ := hc h1'
    refine ⟨v, s', h2, hx, fun {w0 φ sz a w} hρ hg hm o ho next Q hn => ?_⟩
    have hfv := hu hg
    simp only [conc, Option.map_eq_some_iff] at hfv
    obtain ⟨yv, hy, hfe⟩ := hfv
    have q := h3 (w := w) hρ (concL_cons.2 ⟨_, _, hy, hvs hg, rfl⟩) hm
    refine q.upon (m := execOp a.eval o) ?_ hn
    unfold execOp
    simp only [ho, Sem.run_bind, resolve, hb, ← hfe, Sem.run_pure, Result.andThen_ok]
    rw [meth_run hf]
    congr 2
    apply Array.toList_inj.1
    simp
   ·obtain ⟨b, hb', h1'⟩ := optK_inv h1'
    obtain ⟨id, off, rfl, h1''⟩ := ptrV_inv h1'
    obtain ⟨fo, hfo, h1''⟩ := optK_inv h1''
    rw [forceN_eq] at h1''
    obtain ⟨v, s', h2, hx, h3⟩ := hc h1''
    refine ⟨v, s', h2, hx, fun {w0 φ sz a w} hρ hg hm o ho next Q hn => ?_⟩
    have hfv := hu hg
    simp only [conc, Option.map_eq_some_iff] at hfv
    obtain ⟨yv, ⟨p, hp, rfl⟩, hfe⟩ := hfv
    have hy : conc φ ρ (.ptr id (off + fo)) = some (.pointer (some ⟨p.blk, p.sh + (off + fo), none⟩)) := by simp [conc, hp]
    have q := h3 (w := w) hρ (concL_cons.2 ⟨_, _, hy, hvs hg, rfl⟩) hm
    refine q.upon (m := execOp a.eval o) ?_ hn
    unfold execOp
    simp only [ho, Sem.run_bind, resolve, hb, ← hfe, Sem.run_pure, Result.andThen_ok]
    rw [methB_run hb' hfo]
    rw [Nat.add_assoc]
    congr 2
    apply Array.toList_inj.1
    simp
 case range T x =>
  obtain ⟨u, h0, hu⟩ := opd_inv (show opd t x (fun x => rangeA P T s x κ) ∈ D from hD)
  obtain ⟨v, s', h1, hpc, h2⟩ := range_sound (P := P) (ρ := ρ) h0
  refine ⟨v, s', h1, pcx hpc, fun {w0 φ sz a w} _ hg hm => ?_⟩
  obtain ⟨φ', y, w', r1, r2, r3, r4⟩ := h2 hm (hu hg)
  exact (EffO.of r1 r2 r3 r4 fun o ho => by unfold execOp; simp only [ho]).opO
 case next x str =>
  obtain ⟨u, h0, hu⟩ := opd_inv (show opd t x (fun x => nextA str s x κ) ∈ D from hD)
  obtain ⟨v, s', h1, hpc, h2⟩ := next_sound (P := P) (ρ := ρ) h0
  refine ⟨v, s', h1, pcx hpc, fun {w0 φ sz a w} _ hg hm => EffO.opO ?_⟩
  obtain ⟨y, w', r2, r3, r4⟩ := h2 hm (hu hg)
  refine ⟨φ, y, w', List.prefix_refl _, r2, r3, fun o ho => .inl ?_⟩
  unfold execOp
  simp only [ho, Sem.run_bind, r4 o.type, Result.andThen_ok]
  rfl
 all_goals exact quietK_sound (show quietK P s t _ κ ∈ D from hD)
theorem putK_inv {sz : Nat} {t : Ts} {v : AV} {κ : Ts → R} {d : Option Tmp} (hD : putK sz t v κ d ∈ D) : ∃ t', κ t' ∈ D ∧ ∀ {φ a x}, GA φ ρ t sz a → conc φ ρ v = some x → GA φ ρ t' sz (a.put d x) := by
 cases d with
 | none => exact ⟨t, hD, fun hg _ => hg⟩
 | some d =>
  obtain ⟨h1, h2⟩ := brec_inv (show Bool.rec (motive := fun _ => R) (.fail 160) (κ (Ts.put d v t)) (Nat.blt d sz) ∈ D from hD)
  rw [natBlt] at h1
  exact ⟨_, h2, fun hg hx => hg.put (of_decide_eq_true h1) hx⟩
theorem wantB_inv {pc : PC} {want : Bool} {κ : Bool → PC → R} {v : AV} (hD : wantB pc want κ v ∈ D) : ∃ b pc', κ b pc' ∈ D ∧ PcExt pc pc' ∧ ∀ {φ x}, Holds ρ pc' → conc φ ρ v = some x → ((match x with | .bool c => some c | _ => none : Option Bool) == some want) = b := by
 cases v
 case bool b =>
  obtain ⟨c, pc', h1, hx, hc⟩ := decK_inv (show decK pc b (fun b pc => κ (b == want) pc) ∈ D from hD)
  refine ⟨_, pc', h1, hx, fun {φ x} hρ hx => ?_⟩
  simp only [conc, Option.some.injEq, hc ρ hρ] at hx
  subst hx
  cases c <;> cases want <;> rfl
 case raw => cases hD
 case opq => cases hD
 case dfr => cases hD
 case ssl =>
  refine ⟨false, pc, hD, .refl _, fun {φ x} _ hx => ?_⟩
  obtain ⟨p, n, c, rfl⟩ := ssl_conc hx
  rfl
 case fsl =>
  refine ⟨false, pc, hD, .refl _, fun {φ x} _ hx => ?_⟩
  obtain ⟨p, n, c, rfl⟩ := fsl_conc hx
  rfl
 all_goals
  refine ⟨false, pc, hD, .refl _, fun {φ x} _ hx => ?_⟩
  simp only [conc, Option.map_eq_some_iff, Option.bind_eq_some_iff, Option.some.injEq] at hx
 case int => subst hx; rfl
 case ptr => obtain ⟨p, _, rfl⟩ := hx; rfl
 case sl => obtain ⟨p, _, rfl⟩ := hx; rfl
 case emp =>
  obtain ⟨p, _, rfl⟩ := hx
  rename_i i o0 o1 _ _
  by_cases hr : p.room o1 = 0 <;> simp [hr]
 case em0 => obtain ⟨p, _, rfl⟩ := hx; rfl
 case map => obtain ⟨p, _, rfl⟩ := hx; rfl
 case fn => obtain ⟨p, _, q, _, rfl⟩ := hx; rfl
 case iface => obtain ⟨p, _, rfl⟩ := hx; rfl
 case agg => obtain ⟨p, _, rfl⟩ := hx; rfl
 case tup => obtain ⟨p, _, rfl⟩ := hx; rfl
 case osl => subst hx; rfl
theorem yielded_eq {ops : Array Oper} {a : Act} {j d : Nat} (hd : (ops[j]?).bind (·.dst) = some d) : yielded ops a.tmps j = match a.tmps.getD d undef with | .bool c => some c | _ => none := by
 unfold yielded
 rw [hd]
 simp only [Option.bind_some]
 rcases Nat.lt_or_ge d a.tmps.size with h | h
 ·rw [Array.getElem?_eq_getElem h]
  simp only [Array.getD, h, dite_true, Array.getInternal_eq_getElem]
  cases a.tmps[d] <;> rfl
 ·rw [Array.getElem?_eq_none h]
  simp [Array.getD, Nat.not_lt.2 h, undef]
def AsmOk (ρ : Nat → Int) (ops : Array Oper) (m : Asm) (t : Ts) (pc : PC) : Prop := match m with
 | .no => True
 | .yes g w d b => (ops[g]?).bind (·.dst) = some d ∧ ∃ v, t.get d = some v ∧ ∀ {φ x}, Holds ρ pc → conc φ ρ v = some x → ((match x with | .bool c => some c | _ => none : Option Bool) == some w) = b
theorem AsmOk.ext {ops : Array Oper} {m : Asm} {t : Ts} {pc pc' : PC} (h : AsmOk ρ ops m t pc) (hx : PcExt pc pc') : AsmOk ρ ops m t pc' := by
 cases m with
 | no => trivial
 | yes g w d b =>
  obtain ⟨h1, v, h2, h3⟩ := h
  exact ⟨h1, v, h2, fun hρ hc => h3 (hρ.of_ext hx) hc⟩
theorem AsmOk.want {ops : Array Oper} {g : Nat} {w b : Bool} {d : Nat} {t : Ts} {pc : PC} (h : AsmOk ρ ops (.yes g w d b) t pc) {φ : List Pl} {sz : Nat} {a : Act} (hρ : Holds ρ pc) (hg : GA φ ρ t sz a) : (yielded ops a.tmps g == some w) = b := by
 obtain ⟨h1, v, h2, h3⟩ := h
 rw [yielded_eq h1]
 exact h3 hρ (hg.tm d v h2)
theorem putK_inv' {sz : Nat} {t : Ts} {v : AV} {κ : Ts → R} {d : Option Tmp} (hD : putK sz t v κ d ∈ D) : ∃ t', κ t' ∈ D ∧ (∀ {φ a x}, GA φ ρ t sz a → conc φ ρ v = some x → GA φ ρ t' sz (a.put d x)) ∧ (∀ {ops m pc}, AsmOk ρ ops m t pc → AsmOk ρ ops (asmD m d) t' pc) ∧ ∀ e, d ≠ some e → t'.get e = t.get e := by
 cases d with
 | none =>
  refine ⟨t, hD, fun hg _ => hg, fun {ops m pc} h => ?_, fun _ _ => rfl⟩
  cases m <;> exact h
 | some d =>
  obtain ⟨h1, h2⟩ := brec_inv (show Bool.rec (motive := fun _ => R) (.fail 160) (κ (Ts.put d v t)) (Nat.blt d sz) ∈ D from hD)
  rw [natBlt] at h1
  refine ⟨_, h2, fun hg hx => hg.put (of_decide_eq_true h1) hx, fun {ops m pc} h => ?_, fun e he => (Tr.get_set t d v e).trans (if_neg fun h => he (by rw [h]))⟩
  cases m with
  | no => exact h
  | yes g w e b =>
   show AsmOk ρ ops (Bool.rec (motive := fun _ => Asm) (.yes g w e b) .no (Nat.beq d e)) (Ts.put d v t) pc
   cases hde : Nat.beq d e with
   | true => trivial
   | false =>
    rw [natBeq] at hde
    have hde := of_decide_eq_false hde
    obtain ⟨h1, u, h2, h3⟩ := h
    exact ⟨h1, u, ((Tr.get_set t d v e).trans (if_neg fun h => hde h.symm)).trans h2, h3⟩
theorem asmG_inv {m : Asm} {g : Nat × Bool} {no : R} {yes : Bool → R} (hD : asmG m g no yes ∈ D) : no ∈ D ∨ ∃ d b, m = .yes g.1 g.2 d b ∧ yes b ∈ D := by
 cases m with
 | no => exact .inl hD
 | yes g' w d b =>
  rcases brec_cases (show Bool.rec (motive := fun _ => R) no (yes b) (Nat.beq g' g.1 && eqB2 w g.2) ∈ D from hD) with ⟨h, h1⟩ | ⟨_, h1⟩
  ·refine .inr ⟨d, b, ?_, h1⟩
   simp only [Bool.and_eq_true] at h
   obtain ⟨ha, hb⟩ := h
   rw [natBeq] at ha
   have ha := of_decide_eq_true ha
   have hb : w = g.2 := by
    revert hb
    cases w <;> cases g.2 <;> simp [eqB2, notF]
   rw [ha, hb]
  ·exact .inl h1
theorem wantG_inv {ops : Array Oper} {t : Ts} {pc : PC} {κ : Asm → Bool → PC → R} {g : Nat × Bool} (hD : wantG ops t pc κ g ∈ D) : ∃ m b pc', κ m b pc' ∈ D ∧ PcExt pc pc' ∧ AsmOk ρ ops m t pc' ∧ setB m b = m ∧ ∀ {φ sz a}, Holds ρ pc' → GA φ ρ t sz a → (yielded ops a.tmps g.1 == some g.2) = b := by
 unfold wantG at hD
 cases hd : (ops[g.1]?).bind (·.dst) with
 | some d =>
  rw [hd] at hD
  obtain ⟨v, hv, hD⟩ := getK_inv (show t.getK d (wantB pc g.2 fun b pc => κ (.yes g.1 g.2 d b) b pc) ∈ D from hD)
  obtain ⟨b, pc', h1, hx, h2⟩ := wantB_inv (ρ := ρ) hD
  exact ⟨_, b, pc', h1, hx, ⟨hd, v, hv, h2⟩, rfl, fun hρ hg => by rw [yielded_eq hd]; exact h2 hρ (hg.tm d v hv)⟩
 | none =>
  rw [hd] at hD
  refine ⟨_, _, pc, hD, .refl _, trivial, rfl, fun _ _ => ?_⟩
  unfold yielded
  rw [hd]
  rfl
theorem wantK_inv {ops : Array Oper} {t : Ts} {pc : PC} {m : Asm} {κ : Asm → Bool → PC → R} {o : Oper} (ha : AsmOk ρ ops m t pc) (hD : wantK ops t pc m κ o.guard ∈ D) : ∃ m' b pc', κ m' b pc' ∈ D ∧ PcExt pc pc' ∧ AsmOk ρ ops m' t pc' ∧ setB m' b = m' ∧ ∀ {φ sz a}, Holds ρ pc' → GA φ ρ t sz a → Region.wanted o (yielded ops a.tmps) = b := by
 unfold wantK at hD
 cases hg : o.guard with
 | none =>
  rw [hg] at hD
  exact ⟨_, _, pc, hD, .refl _, trivial, rfl, fun _ _ => by simp [Region.wanted, hg]⟩
 | some g =>
  rw [hg] at hD
  rcases asmG_inv (show asmG m g (wantG ops t pc κ g) (fun b => κ m b pc) ∈ D from hD) with h | ⟨d, b, rfl, h⟩
  ·obtain ⟨m', b, pc', h1, hx, h2, hs, h3⟩ := wantG_inv (ρ := ρ) h
   exact ⟨m', b, pc', h1, hx, h2, hs, fun hρ hga => by simp only [Region.wanted, hg]; exact h3 hρ hga⟩
  ·exact ⟨_, b, pc, h, .refl _, ha, rfl, fun hρ hga => by simp only [Region.wanted, hg]; exact ha.want hρ hga⟩
theorem dfrK_inv {sz : Nat} {s : St} {t : Ts} {d : Option Tmp} {κ : RK} {op : Op} (h : dfrK sz s t d κ op ∈ D) : ∃ c f, op = .defer c ∧ c.callee = .value f ∧ d = none ∧ opd t f (fun f => opds t c.args.toList fun l => fnV f fun g a b => κ s (Ts.put sz (.dfr (.fn (.func g) [] b) (a ++ l) (restD sz t)) t)) ∈ D := by
 unfold dfrK at h
 split at h
 ·rename_i c
  cases d with
  | some d => cases h
  | none =>
   have h : dfrC sz s t κ c ∈ D := h
   unfold dfrC at h
   split at h
   ·rename_i f hf
    exact ⟨c, f, rfl, hf, rfl, h⟩
   ·cases h
 ·cases h
def Keeps (sz : Nat) (l : List Oper) (t t' : Ts) : Prop := ∀ e, (e ≠ sz ∨ ∀ o ∈ l, isDef o.op = false) → (∀ o ∈ l, o.dst ≠ some e) → t'.get e = t.get e
theorem evOps_sound {ops : Array Oper} {call : CallT} (hc : CallSound P ρ call) {sz : Nat} : ∀ {l : List Oper} {m : Asm} {s : St} {t : Ts} {κ : RK}, AsmOk ρ ops m t s.pc → evOps P ops call sz l m s t κ ∈ D → ∃ s' t', κ s' t' ∈ D ∧ PcExt s.pc s'.pc ∧ Keeps sz l t t' ∧ ∀ {w0 φ a w}, Holds ρ s'.pc → GA φ ρ t sz a → Gm P ρ w0 φ s w →
  ∀ (Q : Exit → Act → World → Prop), (∀ φ' a' w', φ <+: φ' → GA φ' ρ t' sz a' → Gm P ρ w0 φ' s' w' → Q .normal a' w') → wpList P ops Q l a w
 | [], m, s, t, κ, _, hD => ⟨s, t, hD, .refl _, fun _ _ _ => rfl, fun {w0 φ a w} _ hg hm Q hQ => hQ φ a w (List.prefix_refl _) hg hm⟩
 | o :: l, m, s, t, κ, ha, hD => by
  have hD : opG P ops call sz m s t (fun m s t => evOps P ops call sz l m s t κ) o ∈ D := hD
  -- the operation itself
  have run : ∀ {m : Asm} {s : St}, AsmOk ρ ops m t s.pc → opE P call sz o s t (fun s t => evOps P ops call sz l (asmD m o.dst) s t κ) (fun s t => evOps P ops call sz l .no s t κ) ∈ D → ∃ s' t', κ s' t' ∈ D ∧ PcExt s.pc s'.pc ∧ Keeps sz (o :: l) t t' ∧ ∀ {w0 φ a w}, Holds ρ s'.pc → GA φ ρ t sz a → Gm P ρ w0 φ s w →
    ∀ (Q : Exit → Act → World → Prop), (∀ φ' a' w', φ <+: φ' → GA φ' ρ t' sz a' → Gm P ρ w0 φ' s' w' → Q .normal a' w') → o.wp P a w (wpList P ops Q l) Q := by
   intro m s ha h
   rcases brec_cases h with ⟨hdf, h⟩ | ⟨_, h⟩
   ·obtain ⟨c, f, hop, hcal, hdst, h⟩ := dfrK_inv h
    obtain ⟨u, h, hu⟩ := opd_inv h
    obtain ⟨vs, h, _, hvs⟩ := opds_inv h
    obtain ⟨g, la, lb, rfl, h⟩ := fnV_inv h
    obtain ⟨s2, t2, h5, x2, k2, h6⟩ := evOps_sound hc (m := .no) trivial h
    refine ⟨s2, t2, h5, x2, fun e he hd => (k2 e (he.imp id fun h o ho => h o (List.mem_cons_of_mem _ ho)) fun o ho => hd o (List.mem_cons_of_mem _ ho)).trans ((Tr.get_set t sz _ e).trans (if_neg (he.resolve_right fun h => by have := h o (List.mem_cons_self ..); rw [hdf] at this; cases this))), fun {w0 φ a w} hρ hg hm Q hQ => ?_⟩
    have hfv := hu hg
    simp only [conc, Option.bind_eq_some_iff, Option.map_eq_some_iff] at hfv
    obtain ⟨xa, hxa, xb, hxb, hfe⟩ := hfv
    have hg' := hg.defer (g := g) (rest := restD sz t) (by unfold restD; cases t.get sz <;> rfl) hxb (concL_append.2 ⟨_, _, hxa, hvs hg, rfl⟩)
    unfold Oper.wp
    have hexec : (execOp a.eval o).run P w = .ok (.defer { target := .fn (.func g) xb.toArray, args := (xa ++ c.args.toList.map a.eval).toArray }) w := by
     unfold execOp
     simp only [hop, Sem.run_bind, resolve, hcal, ← hfe, Deferred.ofValue, Sem.run_pure, Result.andThen_ok]
     congr 3
     apply Array.toList_inj.1
     simp
    rw [hexec, Oper.upon_defer, hdst]
    exact h6 hρ hg' hm Q hQ
   obtain ⟨v, s1, h1, x1, h2⟩ := evOp_sound hc h
   obtain ⟨t1, h3, h4, ha1, k1⟩ := putK_inv' (ρ := ρ) (show putK sz t v ((fun s t => evOps P ops call sz l (asmD m o.dst) s t κ) s1) o.dst ∈ D from h1)
   obtain ⟨s2, t2, h5, x2, k2, h6⟩ := evOps_sound hc (ha1 (ha.ext x1)) h3
   refine ⟨s2, t2, h5, x1.trans x2, fun e he hd => (k2 e (he.imp id fun h o ho => h o (List.mem_cons_of_mem _ ho)) fun o ho => hd o (List.mem_cons_of_mem _ ho)).trans (k1 e (hd o (List.mem_cons_self ..))), fun {w0 φ a w} hρ hg hm Q hQ => ?_⟩
   exact h2 (hρ.of_ext x2) hg hm o rfl _ Q fun φ' x w' p1 c1 m1 => h6 hρ (h4 (hg.mono p1) c1) m1 Q fun φ2 a2 w2 p2 g2 m2 => hQ φ2 a2 w2 (p1.trans p2) g2 m2
  -- decided
  have dec : ∀ {m : Asm} {b : Bool} {pc' : PC} {g : Nat × Bool}, o.guard = some g → PcExt s.pc pc' → AsmOk ρ ops m t pc' → setB m b = m → (∀ {φ sz a}, Holds ρ pc' → GA φ ρ t sz a → (yielded ops a.tmps g.1 == some g.2) = b) → opW P call sz o s t (fun m s t => evOps P ops call sz l m s t κ) m b pc' ∈ D → ∃ s' t', κ s' t' ∈ D ∧ PcExt s.pc s'.pc ∧ Keeps sz (o :: l) t t' ∧ ∀ {w0 φ a w}, Holds ρ s'.pc → GA φ ρ t sz a → Gm P ρ w0 φ s w →
    ∀ (Q : Exit → Act → World → Prop), (∀ φ' a' w', φ <+: φ' → GA φ' ρ t' sz a' → Gm P ρ w0 φ' s' w' → Q .normal a' w') → wpList P ops Q (o :: l) a w := by
   intro m b pc' g hgd x1 ha hs hb h1
   unfold opW at h1
   have h1 : Bool.rec (motive := fun _ => R) (putK sz t undefA (fun t => evOps P ops call sz l (asmD (setB m false) o.dst) ⟨s.hp, s.nx, pc'⟩ t κ) o.dst) (opE P call sz o ⟨s.hp, s.nx, pc'⟩ t (fun s t => evOps P ops call sz l (asmD (setB m true) o.dst) s t κ) (fun s t => evOps P ops call sz l .no s t κ)) b ∈ D := by cases s; exact h1
   rcases brec_cases h1 with ⟨rfl, h2⟩ | ⟨rfl, h2⟩ <;> rw [hs] at h2
   ·obtain ⟨s', t', h3, hx, k1, h4⟩ := run (s := ⟨s.hp, s.nx, pc'⟩) ha h2
    refine ⟨s', t', h3, x1.trans hx, k1, fun {w0 φ a w} hρ hg hm Q hQ => ?_⟩
    unfold wpList
    rw [if_pos (by simp only [Region.wanted, hgd]; exact hb (hρ.of_ext hx) hg)]
    exact .inl (h4 hρ hg (hm.pc pc') Q hQ)
   ·obtain ⟨t1, h3, h4, ha1, k1⟩ := putK_inv' (ρ := ρ) h2
    obtain ⟨s', t', h5, hx, k2, h6⟩ := evOps_sound (s := ⟨s.hp, s.nx, pc'⟩) hc (ha1 ha) h3
    refine ⟨s', t', h5, x1.trans hx, fun e he hd => (k2 e (he.imp id fun h o ho => h o (List.mem_cons_of_mem _ ho)) fun o ho => hd o (List.mem_cons_of_mem _ ho)).trans (k1 e (hd o (List.mem_cons_self ..))), fun {w0 φ a w} hρ hg hm Q hQ => ?_⟩
    unfold wpList
    rw [if_neg (by simp only [Region.wanted, hgd]; rw [hb (hρ.of_ext hx) hg]; simp)]
    exact h6 hρ (h4 hg rfl) (hm.pc pc') Q hQ
  unfold opG at hD
  cases hgd : o.guard with
  | none =>
   rw [hgd] at hD
   obtain ⟨s', t', h1, hx, k1, h2⟩ := run (m := .no) trivial hD
   refine ⟨s', t', h1, hx, k1, fun {w0 φ a w} hρ hg hm Q hQ => ?_⟩
   unfold wpList
   rw [if_pos (by simp [Region.wanted, hgd])]
   exact .inl (h2 hρ hg hm Q hQ)
  | some g =>
   rw [hgd] at hD
   rcases asmG_inv (show asmG m g (wantG ops t s.pc (opW P call sz o s t fun m s t => evOps P ops call sz l m s t κ) g) (fun b => opW P call sz o s t (fun m s t => evOps P ops call sz l m s t κ) m b s.pc) ∈ D from hD) with h | ⟨d, b, rfl, h⟩
   ·obtain ⟨m', b, pc', h1, x1, ha1, hs1, hb⟩ := wantG_inv (ρ := ρ) h
    exact dec hgd x1 ha1 hs1 hb h1
   ·exact dec hgd (.refl _) ha rfl (fun hρ hga => ha.want hρ hga) h
end
end Go.Proofs.YtooebogidjejoaaGreat
namespace Go.Proofs.YtooebogidjejoaaGreat
open Go
mutual
theorem AV.beq_eq : ∀ (a b : AV), AV.beq a b = true → a = b
 | .int k a, b, h => by
  cases b <;> simp only [AV.beq, Bool.and_eq_true, decide_eq_true_eq, reduceCtorEq, Bool.false_eq_true] at h
  obtain ⟨rfl, h⟩ := h
  rw [SI.beq_eq _ _ h]
 | .bool a, b, h => by
  cases b <;> simp only [AV.beq, Bool.false_eq_true] at h
  rw [SB.beq_eq _ _ h]
 | .ptr i o, b, h => by
  cases b <;> simp only [AV.beq, Bool.and_eq_true, natBeq, decide_eq_true_eq, Bool.false_eq_true] at h
  rw [h.1, h.2]
 | .sl i o n c, b, h => by
  cases b <;> simp only [AV.beq, Bool.and_eq_true, natBeq, decide_eq_true_eq, Bool.false_eq_true] at h
  obtain ⟨h1, h2, h3, h4⟩ := h
  subst h1; subst h2; subst h3
  congr 1
  rename_i d
  cases c with
  | none => simp at h4; exact h4.symm
  | some c =>
   cases d with
   | none => simp [optEqN] at h4
   | some d => simp only [optEqN, natBeq, decide_eq_true_eq] at h4; rw [h4]
 | .emp i o n, b, h => by
  cases b <;> simp only [AV.beq, Bool.and_eq_true, natBeq, decide_eq_true_eq, Bool.false_eq_true] at h
  obtain ⟨h1, h2, h3⟩ := h
  rw [h1, h2, h3]
 | .em0 i o n, b, h => by
  cases b <;> simp only [AV.beq, Bool.and_eq_true, natBeq, decide_eq_true_eq, Bool.false_eq_true] at h
  obtain ⟨h1, h2, h3⟩ := h
  rw [h1, h2, h3]
 | .map i, b, h => by
  cases b <;> simp only [AV.beq, natBeq, decide_eq_true_eq, Bool.false_eq_true] at h
  rw [h]
 | .fn f a c, b, h => by
  cases b with
  | fn g d e =>
   cases f <;> cases g <;> simp only [AV.beq, Bool.and_eq_true, natBeq, decide_eq_true_eq, Bool.false_eq_true] at h
   obtain ⟨h1, h2, h3⟩ := h
   rw [h1, AV.beqL_eq a d h2, AV.beqL_eq c e h3]
  | _ => cases f <;> simp [AV.beq] at h
 | .iface t v, b, h => by
  cases b <;> simp only [AV.beq, Bool.and_eq_true, natBeq, decide_eq_true_eq, Bool.false_eq_true] at h
  rw [h.1, AV.beq_eq _ _ h.2]
 | .agg l, b, h => by
  cases b <;> simp only [AV.beq, Bool.false_eq_true] at h
  rw [AV.beqL_eq _ _ h]
 | .tup l, b, h => by
  cases b <;> simp only [AV.beq, Bool.false_eq_true] at h
  rw [AV.beqL_eq _ _ h]
 | .raw v, b, h => by
  cases b <;> simp only [AV.beq, Bool.false_eq_true] at h
  split at h
  ·rfl
  ·simp only [Bool.and_eq_true, natBeq, decide_eq_true_eq] at h; rw [h.1, h.2]
  ·rfl
  ·rfl
  ·rfl
  ·rename_i a b
   obtain ⟨⟨x⟩⟩ := a
   obtain ⟨⟨y⟩⟩ := b
   have h : x = y := by simpa using h
   rw [h]
  ·cases h
 | .opq v, b, h => by cases b <;> simp [AV.beq] at h
 | .osl p k c, b, h => by
  cases b <;> simp only [AV.beq, Bool.and_eq_true, natBeq, decide_eq_true_eq, Bool.false_eq_true] at h
  obtain ⟨rfl, rfl, rfl⟩ := h
  rfl
 | .ssl i a c e d, b, h => by
  cases b <;> simp only [AV.beq, Bool.and_eq_true, natBeq, decide_eq_true_eq, Bool.false_eq_true] at h
  obtain ⟨h1, h2, h3, h4, h5⟩ := h
  subst h1
  rw [SI.beq_eq _ _ h2, SI.beq_eq _ _ h3, SI.beq_eq _ _ h4]
  congr 1
  rename_i d'
  cases d with
  | none => simp at h5; exact h5.symm
  | some x =>
   cases d' with
   | none => simp at h5
   | some y => exact congrArg some (SI.beq_eq _ _ h5)
 | .fsl i a c e, b, h => by
  cases b <;> simp only [AV.beq, Bool.and_eq_true, natBeq, decide_eq_true_eq, Bool.false_eq_true] at h
  obtain ⟨h1, h2, h3, h4⟩ := h
  rw [h1, SI.beq_eq _ _ h2, SI.beq_eq _ _ h3, SI.beq_eq _ _ h4]
 | .dfr f a r, b, h => by cases b <;> simp [AV.beq] at h
theorem AV.beqL_eq : ∀ (a b : List AV), AV.beqL a b = true → a = b
 | [], b, h => by cases b <;> simp [AV.beqL] at h; rfl
 | v :: l, b, h => by
  cases b with
  | nil => simp [AV.beqL] at h
  | cons u m =>
   simp only [AV.beqL, Bool.and_eq_true] at h
   rw [AV.beq_eq v u h.1, AV.beqL_eq l m h.2]
end
section
variable {P : Program} {ρ : Nat → Int} {w0 : Base} {D : Dn}
theorem evQs_sound {ops : Array Oper} {sz : Nat} {h : Tr AObj} : ∀ {l : List Oper} {m : Asm} {t : Ts} {pc : PC} {κ : Ts → PC → R}, AsmOk ρ ops m t pc → evQs P ops sz h l m t pc κ ∈ D → ∃ t' pc', κ t' pc' ∈ D ∧ PcExt pc pc' ∧ Keeps sz l t t' ∧ ∀ {φ a}, Holds ρ pc' → GA φ ρ t sz a →
  ∀ (C : World → Prop), (∀ w, C w → Hp P φ ρ h w) → (∃ w, C w) → ∀ (N : Act → Prop), (∀ a', GA φ ρ t' sz a' → N a') → wpQuiet P ops C N l a
 | [], m, t, pc, κ, _, hD => ⟨t, pc, hD, .refl _, fun _ _ _ => rfl, fun {φ a} _ hg C _ _ N hN => hN a hg⟩
 | o :: l, m, t, pc, κ, ha, hD => by
  have hD : wantK ops t pc m (qW P sz h o t fun m t pc => evQs P ops sz h l m t pc κ) o.guard ∈ D := hD
  obtain ⟨m1, b, pc1, h1, x1, a1, hs, hb⟩ := wantK_inv (ρ := ρ) ha hD
  unfold qW at h1
  rcases brec_cases h1 with ⟨rfl, h2⟩ | ⟨rfl, h2⟩ <;> rw [hs] at h2
  ·obtain ⟨v, pc2, h3, x2, h4⟩ := evQ_sound h2
   obtain ⟨t1, h5, h6, a2, k1⟩ := putK_inv' (ρ := ρ) h3
   obtain ⟨t2, pc3, h7, x3, k2, h8⟩ := evQs_sound (a2 (a1.ext x2)) h5
   refine ⟨t2, pc3, h7, x1.trans (x2.trans x3), fun e he hd => (k2 e (he.imp id fun h o ho => h o (List.mem_cons_of_mem _ ho)) fun o ho => hd o (List.mem_cons_of_mem _ ho)).trans (k1 e (hd o (List.mem_cons_self ..))), fun {φ a} hρ hg C hC hne N hN => ?_⟩
   obtain ⟨w1, hw1⟩ := hne
   obtain ⟨x, hx, hr1⟩ := h4 (hρ.of_ext x3) hg (hC w1 hw1)
   unfold wpQuiet
   rw [if_pos (hb (hρ.of_ext (x2.trans x3)) hg)]
   refine ⟨x, fun w hw => ?_, h8 hρ (h6 hg hx) C hC ⟨w1, hw1⟩ N hN⟩
   obtain ⟨x', hx', hr⟩ := h4 (hρ.of_ext x3) hg (hC w hw)
   rw [hx] at hx'; cases hx'
   unfold Oper.quietAt
   rw [hr o rfl]
   exact ⟨rfl, rfl⟩
  ·obtain ⟨t1, h5, h6, a2, k1⟩ := putK_inv' (ρ := ρ) h2
   obtain ⟨t2, pc3, h7, x3, k2, h8⟩ := evQs_sound (a2 a1) h5
   refine ⟨t2, pc3, h7, x1.trans x3, fun e he hd => (k2 e (he.imp id fun h o ho => h o (List.mem_cons_of_mem _ ho)) fun o ho => hd o (List.mem_cons_of_mem _ ho)).trans (k1 e (hd o (List.mem_cons_self ..))), fun {φ a} hρ hg C hC hne N hN => ?_⟩
   unfold wpQuiet
   rw [if_neg (by rw [hb (hρ.of_ext x3) hg]; simp)]
   exact h8 hρ (h6 hg rfl) C hC hne N hN
theorem holdsK_inv {t : Ts} {d : Option Tmp} {v : AV} {κ : R} (hD : holdsK t d v κ ∈ D) : κ ∈ D ∧ ∀ {φ sz a x}, GA φ ρ t sz a → conc φ ρ v = some x → a.put d x = a := by
 cases d with
 | none => exact ⟨hD, fun _ _ => rfl⟩
 | some d =>
  obtain ⟨u, hu, hD⟩ := getK_inv (show t.getK d (fun u => Bool.rec (motive := fun _ => R) (.fail 171) κ (AV.beq u v)) ∈ D from hD)
  obtain ⟨hb, h1⟩ := brec_inv hD
  refine ⟨h1, fun {φ sz a x} hg hx => ?_⟩
  have := hg.tm d u hu
  rw [AV.beq_eq _ _ hb, hx] at this
  have this := Option.some.inj this
  cases a with
  | mk tmps defers =>
   simp only [Act.put, Act.mk.injEq, and_true]
   apply Array.ext_getElem?
   intro i
   by_cases e : d = i
   ·subst e
    rcases Nat.lt_or_ge d tmps.size with h | h
    ·rw [Array.getElem?_setIfInBounds_self_of_lt h, Array.getElem?_eq_getElem h, this]
     simp [Array.getD, h]
    ·rw [Array.getElem?_eq_none (by simpa using h), Array.getElem?_eq_none h]
   ·rw [Array.getElem?_setIfInBounds_ne e]
theorem again_sound {ops : Array Oper} {h : Tr AObj} {t : Ts} : ∀ {l : List Oper} {m : Asm} {pc : PC} {κ : PC → R}, AsmOk ρ ops m t pc → again P ops h t l m pc κ ∈ D → ∃ pc', κ pc' ∈ D ∧ PcExt pc pc' ∧ ∀ {φ sz a}, Holds ρ pc' → GA φ ρ t sz a →
  ∀ (C : World → Prop), (∀ w, C w → Hp P φ ρ h w) → (∃ w, C w) → wpQuiet P ops C (fun a' => a' = a) l a
 | [], m, pc, κ, _, hD => ⟨pc, hD, .refl _, fun {φ sz a} _ hg C _ _ => rfl⟩
 | o :: l, m, pc, κ, ha, hD => by
  have hD : wantK ops t pc m (agK P h o t fun m pc => again P ops h t l m pc κ) o.guard ∈ D := hD
  obtain ⟨m1, b, pc1, h1, x1, a1, hs, hb⟩ := wantK_inv (ρ := ρ) ha hD
  unfold agK at h1
  rcases brec_cases h1 with ⟨rfl, h2⟩ | ⟨rfl, h2⟩ <;> rw [hs] at h2
  ·obtain ⟨v, pc2, h3, x2, h4⟩ := evQ_sound h2
   obtain ⟨h5, h6⟩ := holdsK_inv (ρ := ρ) h3
   obtain ⟨pc3, h7, x3, h8⟩ := again_sound (a1.ext x2) h5
   refine ⟨pc3, h7, x1.trans (x2.trans x3), fun {φ sz a} hρ hg C hC hne => ?_⟩
   obtain ⟨w1, hw1⟩ := hne
   obtain ⟨x, hx, hr1⟩ := h4 (hρ.of_ext x3) hg (hC w1 hw1)
   unfold wpQuiet
   rw [if_pos (hb (hρ.of_ext (x2.trans x3)) hg)]
   refine ⟨x, fun w hw => ?_, ?_⟩
   ·obtain ⟨x', hx', hr⟩ := h4 (hρ.of_ext x3) hg (hC w hw)
    rw [hx] at hx'; cases hx'
    unfold Oper.quietAt
    rw [hr o rfl]
    exact ⟨rfl, rfl⟩
   ·rw [h6 hg hx]
    exact h8 hρ hg C hC ⟨w1, hw1⟩
  ·obtain ⟨h5, h6⟩ := holdsK_inv (ρ := ρ) h2
   obtain ⟨pc3, h7, x3, h8⟩ := again_sound a1 h5
   refine ⟨pc3, h7, x1.trans x3, fun {φ sz a} hρ hg C hC hne => ?_⟩
   unfold wpQuiet
   rw [if_neg (by rw [hb (hρ.of_ext x3) hg]; simp), h6 hg (x := undef) rfl]
   exact h8 hρ hg C hC hne
theorem Gm.drewN {φ : List Pl} {s : St} {w : World} (hm : Gm P ρ w0 φ s w) (n : Nat) : Gm P ρ w0 φ s (w.drewN n) := hm.world (hm.kp.drewN n) (Nat.le_refl _) (fun _ _ _ _ _ _ => rfl) (fun _ _ _ _ => rfl)
theorem evMix_sound {ops : Array Oper} {call : CallT} (hc : CallSound P ρ call) {sz : Nat} : ∀ {p : Plan} {s : St} {t : Ts} {κ : RK}, evMix P ops call sz p s t κ ∈ D → ∃ s' t', κ s' t' ∈ D ∧ PcExt s.pc s'.pc ∧ ∀ {w0 φ a w}, Holds ρ s'.pc → GA φ ρ t sz a → Gm P ρ w0 φ s w →
  ∀ (Q : Exit → Act → World → Prop), (∀ φ' a' w', φ <+: φ' → GA φ' ρ t' sz a' → Gm P ρ w0 φ' s' w' → Q .normal a' w') → mixWP P ops Q p a w
 | [], s, t, κ, hD => ⟨s, t, hD, .refl _, fun {w0 φ a w} _ hg hm Q hQ => hQ φ a w (List.prefix_refl _) hg hm⟩
 | (b, e, k) :: rest, s, t, κ, hD => by
  have hD : evPart P ops call sz (b, e, k) s t (fun s t => evMix P ops call sz rest s t κ) ∈ D := hD
  unfold evPart at hD
  have hD : evQs P ops sz s.hp (pick ops b) .no t s.pc (fun t pc => evOps P ops call sz (pick ops e) .no ⟨s.hp, s.nx, pc⟩ t (agnK P ops k fun s t => evMix P ops call sz rest s t κ)) ∈ D := by cases s; exact hD
  obtain ⟨t1, pc1, h1, x1, _, q1⟩ := evQs_sound (ρ := ρ) (m := .no) trivial hD
  obtain ⟨s2, t2, h2, x2, _, q2⟩ := evOps_sound hc (m := .no) trivial h1
  unfold agnK at h2
  have h2 : again P ops s2.hp t2 (pick ops k) .no s2.pc (fun pc => evMix P ops call sz rest ⟨s2.hp, s2.nx, pc⟩ t2 κ) ∈ D := by cases s2; exact h2
  obtain ⟨pc3, h3, x3, q3⟩ := again_sound (ρ := ρ) (m := .no) trivial h2
  obtain ⟨s4, t4, h4, x4, q4⟩ := evMix_sound hc h3
  refine ⟨s4, t4, h4, x1.trans (x2.trans (x3.trans x4)), fun {w0 φ a w} hρ hg hm Q hQ => ?_⟩
  unfold mixWP
  refine q1 (hρ.of_ext (x2.trans (x3.trans x4))) hg (Dr w) (fun w' ⟨n, hn⟩ => by rw [hn]; exact (hm.drewN n).hp) ⟨w, Dr.self w⟩ _ fun a1 hg1 n => ?_
  refine q2 (hρ.of_ext (x3.trans x4)) hg1 ((hm.drewN n).pc pc1) _ fun φ2 a2 w2 p2 hg2 hm2 => ?_
  refine ⟨q3 (hρ.of_ext x4) hg2 (fun w' => ∃ n, w' = w2.drewN n) (fun w' ⟨n, hn⟩ => by rw [hn]; exact (hm2.drewN n).hp) ⟨w2, 0, rfl⟩, ?_⟩
  exact q4 hρ hg2 (hm2.pc pc3) Q fun φ3 a3 w3 p3 hg3 hm3 => hQ φ3 a3 w3 (p2.trans p3) hg3 hm3
end
end Go.Proofs.YtooebogidjejoaaGreat
