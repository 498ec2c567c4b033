/-
  A run reckoned ahead: operations with an effect do what was reckoned.
-/
import Derived.Test.YticednpolhnneaaGreatSxj
set_option linter.unusedVariables false
set_option linter.unusedSimpArgs false
namespace Go.Proofs.YticednpolhnneaaGreat
open Go

section
variable {P : Program} {ρ : Nat → Int} {w0 : Base} {D : Dn}

/-- a live thing is turned -/
theorem Gm.upd {φ : List Pl} {s : St} {w w' : World} (hg : Gm P ρ w0 φ s w) {id : Nat} {o o' : AObj} {p : Pl} (hid : s.hp.get id = some o) (hl : live o = true) (hp : φ[id]? = some p) (hk : Kp [p.blk] w w') (ho : ObjOk P φ ρ w' id o') : Gm P ρ w0 φ ⟨s.hp.set id o', s.nx, s.pc⟩ w' := by
  have hlt : ∀ (i : Nat) (q : Pl), φ[i]? = some q → q.blk < w.heap.size := fun i q hq => (hg.lo i q hq).2
  refine ⟨⟨fun i oi hi => ?_, fun i j oi oj pi pj hi hj li lj qi qj he => ?_⟩, hg.len, fun i oi hi => ?_, fun i q hq => ⟨(hg.lo i q hq).1, Nat.lt_of_lt_of_le (hlt i q hq) hk.size⟩, ?_, fun x hx => ⟨Nat.lt_of_lt_of_le (hg.fr x hx).1 hk.size, (hk.block x.1 (hg.fr x hx).1 (by simp only [List.mem_singleton]; exact fun e => (hg.fr x hx).2.2 id p hp e.symm)).trans (hg.fr x hx).2.1, (hg.fr x hx).2.2⟩, hg.fo⟩
  · simp only [Tr.get_set] at hi
    by_cases e : i = id
    · subst e
      rw [if_pos rfl] at hi; cases hi
      exact ho
    · rw [if_neg e] at hi
      refine (hg.hp.obj i oi hi).world fun q hlq hq => hk.block q.blk (hlt i q hq) ?_
      simp only [List.mem_singleton]
      intro he
      exact e (hg.hp.sep i id oi o q p hi hid hlq hl hq hp he)
  · simp only [Tr.get_set] at hi hj
    have gi : ∃ oi', s.hp.get i = some oi' ∧ live oi' = true := by
      by_cases e : i = id
      · subst e; exact ⟨o, hid, hl⟩
      · rw [if_neg e] at hi; exact ⟨oi, hi, li⟩
    have gj : ∃ oj', s.hp.get j = some oj' ∧ live oj' = true := by
      by_cases e : j = id
      · subst e; exact ⟨o, hid, hl⟩
      · rw [if_neg e] at hj; exact ⟨oj, hj, lj⟩
    obtain ⟨oi', a1, a2⟩ := gi
    obtain ⟨oj', b1, b2⟩ := gj
    exact hg.hp.sep i j oi' oj' pi pj a1 b1 a2 b2 qi qj he
  · simp only [Tr.get_set] at hi
    show i < s.nx
    by_cases e : i = id
    · rw [e]; exact hg.ids _ _ hid
    · rw [if_neg e] at hi; exact hg.ids i oi hi
  · refine hg.kp.trans' hk (fun _ h => .inl h) fun i hi => .inr ?_
    simp only [List.mem_singleton] at hi
    subst hi
    exact (hg.lo id p hp).1

theorem stP_sound {s : St} {id off : Nat} {l : List AV} {κ : St → R} (hD : storeL s id off l κ ∈ D) : ∃ s', κ s' ∈ D ∧ s'.pc = s.pc ∧ ∀ {w0 φ w p xs}, Gm P ρ w0 φ s w → φ[id]? = some p → concL φ ρ l = some xs → ∃ w', (storeCells ⟨p.blk, p.sh + off, none⟩ xs).run P w = .ok () w' ∧ Gm P ρ w0 φ s' w' := by
  obtain ⟨n, c, d, T, r, hg, h1⟩ := objK_inv hD
  unfold stP at h1
  obtain ⟨h1o, h2⟩ := brec_inv h1
  obtain ⟨hle, h3⟩ := brec_inv h2
  rw [natBle, lenL_eq] at hle
  have hle : off + l.length ≤ n := of_decide_eq_true hle
  have h3 : κ ⟨s.hp.set id (.cells n (setL c off l) d T r), s.nx, s.pc⟩ ∈ D := by cases s; exact h3
  refine ⟨_, h3, rfl, fun {w0 φ w p xs} hm hp hx => ?_⟩
  obtain ⟨p', arr, fz, hp', hc⟩ := hm.hp.obj _ _ hg
  rw [hp] at hp'; cases hp'
  have hxl := concL_length hx
  have h1x : ∀ v ∈ xs, v.oneCell' = true := by
    intro v hv
    obtain ⟨i, hi, rfl⟩ := List.mem_iff_getElem.1 hv
    have hi' : i < l.length := by omega
    obtain ⟨x, e1, e2⟩ := concL_get hx (List.getElem?_eq_getElem hi')
    rw [List.getElem?_eq_getElem hi] at e2
    cases e2
    exact one_conc (allOne_spec h1o _ (List.getElem_mem hi')) e1
  have hc_le := hc.le
  have hc_sz := hc.size
  obtain ⟨w', arr', r1, r2, r3, r4, r5, r6⟩ := storeCells_run (P := P) (g := p.blk) (o := p.sh + off) xs 0 w arr hc.blk (by omega) (by rw [hc_sz]; exact hc.fr) h1x
  refine ⟨w', r1, hm.upd hg rfl hp r5 ⟨p, arr', fz, hp, ⟨r2, by rw [r3, hc_sz], hc_le, hc.fix, hc.es, hc.fr, fun i hi => ?_⟩⟩⟩
  by_cases hin : off ≤ i ∧ i < off + l.length
  · have hi' : i - off < l.length := by omega
    obtain ⟨x, e1, e2⟩ := concL_get hx (List.getElem?_eq_getElem hi')
    refine ⟨l[i - off], x, ?_, e1, ?_, allOne_spec h1o _ (List.getElem_mem hi')⟩
    · unfold celA
      rw [setL_get, if_pos hin, List.getElem?_eq_getElem hi']
    · rw [r4, if_pos (by omega), ← e2]
      congr 1; omega
  · obtain ⟨v, x, e1, e2, e3, e4⟩ := hc.cell i hi
    refine ⟨v, x, ?_, e2, ?_, e4⟩
    · unfold celA at e1 ⊢
      rw [setL_get, if_neg hin]
      exact e1
    · rw [r4, if_neg (by omega)]
      exact e3

/-! new rows -/
theorem run_newRow {w : World} {T : TypeId} {cs : Array Value} : (newRow T cs).run P w = .ok ⟨w.heap.size, 0, none⟩ { w with heap := w.heap.push (.cells cs T) } := by
  simp [newRow, newObj, Sem.run, Sem.run_bind]
theorem newL_sound {s : St} {l : List AV} {T : TypeId} {row : Bool} {κ : Nat → St → R} (hD : newL s l T row κ ∈ D) : ∃ s', κ s.nx s' ∈ D ∧ s'.pc = s.pc ∧ ∀ {w0 φ w xs p arr fz}, Gm P ρ w0 φ s w → concL φ ρ l = some xs → w0.w0.heap.size ≤ p.blk → p.blk < w.heap.size →
    (∀ i o' q, s.hp.get i = some o' → live o' = true → φ[i]? = some q → q.blk ≠ p.blk) → w.heap[p.blk]? = some (.cells arr T fz) → arr.size = p.sz → p.sh + l.length ≤ p.sz → (row = false → p.sh = 0 ∧ p.sz = l.length ∧ fz = (0, 0) ∧ p.es = 1) → (row = true → sizeA P T = some p.es ∧ 0 < p.es) →
    (∀ i, i < p.sz → ¬ (fz.1 ≤ i ∧ i < fz.2)) → (∀ i, i < l.length → arr[p.sh + i]? = xs[i]?) → (∀ x ∈ w0.fr, p.blk ≠ x.1) → Gm P ρ w0 (φ ++ [p]) s' w := by
  obtain ⟨h1, h2⟩ := brec_inv hD
  rw [forceN_eq] at h2
  unfold newK at h2
  obtain ⟨hp, nx, pc⟩ := s
  have h2 : forceN nx (fun nx => κ nx ⟨hp.set nx (.cells (lenL l) (trOf l) none T row), Nat.succ nx, pc⟩) ∈ D := h2
  rw [forceN_eq] at h2
  refine ⟨_, h2, rfl, fun {w0 φ w xs p arr fz} hm hx hlo hhi hfree hb hsz hle hfix hes hfr hc hfo => ?_⟩
  have ho : ObjOk P (φ ++ [p]) ρ w nx (.cells l.length (trOf l) none T row) := ⟨p, arr, fz, by rw [← show φ.length = nx from hm.len]; simp, (CelOk.row hx h1 hb hsz hle hfix hes hfr hc).mono (pre_one _ _)⟩
  rw [lenL_eq]
  exact hm.add hlo hhi hfree ho pc hfo
/-- a new row of just these cells -/
theorem newL_fixed {s : St} {l : List AV} {T : TypeId} {κ : Nat → St → R} (hD : newL s l T false κ ∈ D) : ∃ s', κ s.nx s' ∈ D ∧ s'.pc = s.pc ∧ ∀ {w0 φ w xs}, Gm P ρ w0 φ s w → concL φ ρ l = some xs →
    Gm P ρ w0 (φ ++ [⟨w.heap.size, 0, l.length, 1⟩]) s' { w with heap := w.heap.push (.cells xs.toArray T) } ∧ (φ ++ [⟨w.heap.size, 0, l.length, 1⟩])[s.nx]? = some (⟨w.heap.size, 0, l.length, 1⟩ : Pl) := by
  obtain ⟨s', h1, h2, h3⟩ := newL_sound (P := P) (ρ := ρ) hD
  refine ⟨s', h1, h2, fun {w0 φ w xs} hm hx => ⟨?_, by rw [← hm.len]; simp⟩⟩
  have hl := concL_length hx
  refine h3 (p := ⟨w.heap.size, 0, l.length, 1⟩) (arr := xs.toArray) (fz := (0, 0)) (hm.push _) hx hm.kp.size (by simp) (fun i o' q hi hl hq he => ?_) (by simp) (by simp [hl]) (by simp) (fun _ => ⟨rfl, rfl, rfl, rfl⟩) (fun h => by cases h) (fun i _ h => by simp at h) (fun i _ => by simp) (fun x hx => Nat.ne_of_gt (hm.fr x hx).1)
  have := (hm.lo i q hq).2
  simp only at he
  omega

/-- what an operation with an effect owes -/
def EffO (P : Program) (ρ : Nat → Int) (w0 : Base) (φ : List Pl) (a : Act) (w : World) (s' : St) (op : Op) (v : AV) : Prop :=
  ∃ φ' x w', φ <+: φ' ∧ conc φ' ρ v = some x ∧ Gm P ρ w0 φ' s' w' ∧ ∀ o : Oper, o.op = op → (execOp a.eval o).run P w = .ok (.value x) w' ∨ ((execOp a.eval o).run P w = .ok .skip w' ∧ x = undef)
theorem EffO.of {φ φ' : List Pl} {a : Act} {w w' : World} {s' : St} {op : Op} {v : AV} {x : Value} {m : Sem Value} (hφ : φ <+: φ') (hx : conc φ' ρ v = some x) (hm : Gm P ρ w0 φ' s' w') (hr : m.run P w = .ok x w') (he : ∀ o : Oper, o.op = op → execOp a.eval o = (do pure (.value (← m)))) : EffO P ρ w0 φ a w s' op v :=
  ⟨φ', x, w', hφ, hx, hm, fun o ho => .inl (by rw [he o ho, Sem.run_bind, hr]; rfl)⟩
theorem EffO.ofU {φ φ' : List Pl} {a : Act} {w w' : World} {s' : St} {op : Op} {m : Sem Unit} (hφ : φ <+: φ') (hm : Gm P ρ w0 φ' s' w') (hr : m.run P w = .ok () w') (he : ∀ o : Oper, o.op = op → execOp a.eval o = (do m; pure .skip)) : EffO P ρ w0 φ a w s' op undefA :=
  ⟨φ', undef, w', hφ, rfl, hm, fun o ho => .inr ⟨by rw [he o ho, Sem.run_bind, hr]; rfl, rfl⟩⟩

theorem store_sound {T : TypeId} {s : St} {a v : AV} {κ : St → R} (hD : storeA P T s a v κ ∈ D) : ∃ s', κ s' ∈ D ∧ s'.pc = s.pc ∧ ∀ {w0 φ w x y}, Gm P ρ w0 φ s w → conc φ ρ a = some x → conc φ ρ v = some y → ∃ w', (Instr.storeAt T x y).run P w = .ok () w' ∧ Gm P ρ w0 φ s' w' := by
  obtain ⟨id, off, rfl, hD⟩ := ptrV_inv hD
  · skip
    obtain ⟨l, h1, hl⟩ := cellsK_inv hD
    obtain ⟨n, hn, h2⟩ := optK_inv h1
    obtain ⟨he, h3⟩ := brec_inv h2
    rw [natBeq, lenL_eq] at he
    have he := of_decide_eq_true he
    obtain ⟨s', h4, hpc, h5⟩ := stP_sound (P := P) (ρ := ρ) h3
    refine ⟨s', h4, hpc, fun {w0 φ w x y} hm hx hy => ?_⟩
    obtain ⟨p, hp, rfl⟩ := conc_ptr hx
    obtain ⟨w', r1, r2⟩ := h5 hm hp (hl hy)
    refine ⟨w', ?_, r2⟩
    have hsz : y.cells.size = n := by rw [← Array.length_toList, concL_length (hl hy), he]
    simp only [Instr.storeAt, Instr.sureAddr, Sem.run_bind, Sem.run_pure, Result.andThen_ok, storeVar, run_size hn, hsz, ne_eq, not_true_eq_false, if_false]
    simpa using r1
theorem alloc_sound {T : TypeId} {s : St} {κ : AV → St → R} (hD : allocA P T s κ ∈ D) : ∃ v s', κ v s' ∈ D ∧ s'.pc = s.pc ∧ ∀ {w0 φ a w}, Gm P ρ w0 φ s w → EffO P ρ w0 φ a w s' (.alloc T) v := by
  obtain ⟨z, hz, h1⟩ := optK_inv hD
  obtain ⟨l, h2, hl⟩ := cellsK_inv h1
  obtain ⟨s', h3, hpc, h4⟩ := newL_fixed (P := P) (ρ := ρ) h2
  refine ⟨_, s', h3, hpc, fun {w0 φ a w} hm => ?_⟩
  obtain ⟨zv, hzr, hzc⟩ := zero_conc hz (w := w) (φ := φ) (ρ := ρ)
  obtain ⟨r1, r2⟩ := h4 hm (hl hzc)
  refine .of (m := Instr.alloc T true (.tuple #[])) (pre_one _ _) (x := .pointer (some ⟨w.heap.size, 0, none⟩)) (by simp [conc, r2]) r1 ?_ (fun o ho => by unfold execOp; simp only [ho])
  simp [Instr.alloc, Sem.run_bind, hzr, newVar, run_newRow]
theorem box_sound {T : TypeId} {u : AV} {s : St} {κ : AV → St → R} (hD : boxA T u s κ ∈ D) : ∃ v s', κ v s' ∈ D ∧ s'.pc = s.pc ∧ ∀ {w0 φ w x}, Gm P ρ w0 φ s w → conc φ ρ u = some x → ∃ φ' y w', φ <+: φ' ∧ conc φ' ρ v = some y ∧ Gm P ρ w0 φ' s' w' ∧ (Instr.box T x).run P w = .ok y w' := by
  obtain ⟨l, h2, hl⟩ := cellsK_inv hD
  obtain ⟨s', h3, hpc, h4⟩ := newL_fixed (P := P) (ρ := ρ) h2
  refine ⟨_, s', h3, hpc, fun {w0 φ w x} hm hx => ?_⟩
  obtain ⟨r1, r2⟩ := h4 hm (hl hx)
  exact ⟨_, .pointer (some ⟨w.heap.size, 0, none⟩), _, pre_one _ _, by simp [conc, r2], r1, by simp [Instr.box, Sem.run_bind, newVar, run_newRow]⟩
end

end Go.Proofs.YticednpolhnneaaGreat
