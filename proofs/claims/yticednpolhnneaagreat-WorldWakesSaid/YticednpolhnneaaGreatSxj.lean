/-
  A run reckoned ahead: memory as it goes on.
-/
import Derived.Test.YticednpolhnneaaGreatSxi
import Derived.Test.YticednpolhnneaaGreatMem
set_option linter.unusedVariables false
set_option linter.unusedSimpArgs false
namespace Go.Proofs.YticednpolhnneaaGreat
open Go

/-- from where one looks: the world at the beginning; blocks of others, as they stand -/
structure Base where
  w0 : World
  fr : List (Nat × Obj)
/-- the rows that were there hold the bytes that letters tell -/
def FoOk (ρ : Nat → Int) (w : World) : Prop := ∀ a, 32 ≤ a → a < 64 → ρ (fMark a) = 1 → 0 ≤ ρ a ∧ (ρ a).toNat ≤ (ρ (fCap a)).toNat ∧ ∀ i, i < (ρ a).toNat → ∃ arr T fz, w.heap[(ρ (fBlk a)).toNat]? = some (.cells arr T fz) ∧ arr[(ρ (fOff a)).toNat + i]? = some (.int .u8 (rowB ρ a i))
structure Gm (P : Program) (ρ : Nat → Int) (w0 : Base) (φ : List Pl) (s : St) (w : World) : Prop where
  hp : Hp P φ ρ s.hp w
  len : φ.length = s.nx
  ids : ∀ id o, s.hp.get id = some o → id < s.nx
  lo : ∀ (id : Nat) (p : Pl), φ[id]? = some p → w0.w0.heap.size ≤ p.blk ∧ p.blk < w.heap.size
  kp : Kp [] w0.w0 w
  fr : ∀ x ∈ w0.fr, x.1 < w.heap.size ∧ w.heap[x.1]? = some x.2 ∧ ∀ (id : Nat) (p : Pl), φ[id]? = some p → p.blk ≠ x.1
  fo : FoOk ρ w0.w0

section
variable {P : Program} {ρ : Nat → Int} {w0 : Base} {w w' : World} {φ φ' : List Pl} {s : St}

theorem EntOk.mono {es : List (AV × AV × Nat)} {ms : List MapEntry} (h : EntOk φ ρ es ms) (hp : φ <+: φ') : EntOk φ' ρ es ms := by
  induction h with
  | nil => exact .nil
  | cons hk hv _ ih => exact .cons (conc_mono hp _ _ hk) (conc_mono hp _ _ hv) ih
theorem CelOk.mono {p : Pl} {arr : Array Value} {fz : Nat × Nat} {n : Nat} {c : Tr AV} {d : Option AV} {T : TypeId} {row : Bool} (h : CelOk P φ ρ w p arr fz n c d T row) (hp : φ <+: φ') : CelOk P φ' ρ w p arr fz n c d T row :=
  ⟨h.blk, h.size, h.le, h.fix, h.es, h.fr, fun i hi => by
    obtain ⟨v, x, h1, h2, h3, h4⟩ := h.cell i hi
    exact ⟨v, x, h1, conc_mono hp _ _ h2, h3, h4⟩⟩
theorem CelOk.world {p : Pl} {arr : Array Value} {fz : Nat × Nat} {n : Nat} {c : Tr AV} {d : Option AV} {T : TypeId} {row : Bool} (h : CelOk P φ ρ w p arr fz n c d T row) (he : w'.heap[p.blk]? = w.heap[p.blk]?) : CelOk P φ ρ w' p arr fz n c d T row :=
  ⟨he.trans h.blk, h.size, h.le, h.fix, h.es, h.fr, h.cell⟩
theorem MapAt.mono {m m' : Option Nat} (h : MapAt φ m m') (hp : φ <+: φ') : MapAt φ' m m' := by
  cases m <;> cases m' <;> simp only [MapAt] at h ⊢
  obtain ⟨q, h1, h2⟩ := h
  exact ⟨q, pl_mono hp h1, h2⟩
theorem ObjOk.mono {id : Nat} {o : AObj} (h : ObjOk P φ ρ w id o) (hp : φ <+: φ') : ObjOk P φ' ρ w id o := by
  cases o with
  | cells n c d T row => obtain ⟨p, arr, fz, h1, h2⟩ := h; exact ⟨p, arr, fz, pl_mono hp h1, h2.mono hp⟩
  | map es clk => obtain ⟨p, xs, h1, h2, h3⟩ := h; exact ⟨p, xs, pl_mono hp h1, h2, h3.mono hp⟩
  | iter m since seen last => obtain ⟨p, m', h1, h2, h3, h4⟩ := h; exact ⟨p, m', pl_mono hp h1, h2, h3.mono hp, h4⟩
  | rope cs T row => obtain ⟨p, arr, fz, h1, h2⟩ := h; exact ⟨p, arr, fz, pl_mono hp h1, h2⟩
  | dead => obtain ⟨p, h1⟩ := h; exact ⟨p, pl_mono hp h1⟩
theorem ObjOk.world {id : Nat} {o : AObj} (h : ObjOk P φ ρ w id o) (he : ∀ p, live o = true → φ[id]? = some p → w'.heap[p.blk]? = w.heap[p.blk]?) : ObjOk P φ ρ w' id o := by
  cases o with
  | cells n c d T row => obtain ⟨p, arr, fz, h1, h2⟩ := h; exact ⟨p, arr, fz, h1, h2.world (he p rfl h1)⟩
  | map es clk => obtain ⟨p, xs, h1, h2, h3⟩ := h; exact ⟨p, xs, h1, (he p rfl h1).trans h2, h3⟩
  | iter m since seen last => obtain ⟨p, m', h1, h2, h3, h4⟩ := h; exact ⟨p, m', h1, h2, h3, (he p rfl h1).trans h4⟩
  | rope cs T row => obtain ⟨p, arr, fz, h1, h2⟩ := h; exact ⟨p, arr, fz, h1, ⟨(he p rfl h1).trans h2.blk, h2.size, h2.le, h2.fix, h2.es, h2.e1, h2.fr, h2.cell⟩⟩
  | dead => exact h
theorem ObjOk.pl {id : Nat} {o : AObj} (h : ObjOk P φ ρ w id o) : ∃ p, φ[id]? = some p := by
  cases o with
  | cells n c d T row => obtain ⟨p, arr, fz, h1, h2⟩ := h; exact ⟨p, h1⟩
  | map es clk => obtain ⟨p, xs, h1, h2, h3⟩ := h; exact ⟨p, h1⟩
  | iter m since seen last => obtain ⟨p, m', h1, _⟩ := h; exact ⟨p, h1⟩
  | rope cs T row => obtain ⟨p, arr, fz, h1, _⟩ := h; exact ⟨p, h1⟩
  | dead => exact h

theorem pre_one (φ : List Pl) (p : Pl) : φ <+: φ ++ [p] := ⟨[p], rfl⟩

/-- a new thing -/
theorem Gm.add (hg : Gm P ρ w0 φ s w) {p : Pl} (hlo : w0.w0.heap.size ≤ p.blk) (hhi : p.blk < w.heap.size) {o : AObj} (hfree : ∀ i o' q, s.hp.get i = some o' → live o' = true → φ[i]? = some q → q.blk ≠ p.blk)
    (ho : ObjOk P (φ ++ [p]) ρ w s.nx o) (pc : PC) (hfr : ∀ x ∈ w0.fr, p.blk ≠ x.1) : Gm P ρ w0 (φ ++ [p]) ⟨s.hp.set s.nx o, s.nx + 1, pc⟩ w := by
  have hnew : (φ ++ [p])[s.nx]? = some p := by rw [← hg.len]; simp
  have hold : ∀ i q, i < s.nx → (φ ++ [p])[i]? = some q → φ[i]? = some q := fun i q hi hq => by
    rw [List.getElem?_append_left (by rw [hg.len]; exact hi)] at hq; exact hq
  refine ⟨⟨fun id o' hid => ?_, fun i j oi oj pi pj hi hj li lj qi qj he => ?_⟩, by simp [hg.len], fun id o' hid => ?_, fun id q hq => ?_, hg.kp, fun x hx => ⟨(hg.fr x hx).1, (hg.fr x hx).2.1, fun id q hq => ?_⟩, hg.fo⟩
  · simp only [Tr.get_set] at hid
    by_cases e : id = s.nx
    · subst e
      rw [if_pos rfl] at hid
      cases hid
      exact ho
    · rw [if_neg e] at hid
      exact (hg.hp.obj id o' hid).mono (pre_one _ _)
  · simp only [Tr.get_set] at hi hj
    by_cases ei : i = s.nx <;> by_cases ej : j = s.nx
    · rw [ei, ej]
    · rw [if_neg ej] at hj
      subst ei
      rw [hnew] at qi; cases qi
      exact absurd he.symm (hfree j oj pj hj lj (hold j pj (hg.ids j oj hj) qj))
    · rw [if_neg ei] at hi
      subst ej
      rw [hnew] at qj; cases qj
      exact absurd he (hfree i oi pi hi li (hold i pi (hg.ids i oi hi) qi))
    · rw [if_neg ei] at hi
      rw [if_neg ej] at hj
      exact hg.hp.sep i j oi oj pi pj hi hj li lj (hold i pi (hg.ids i oi hi) qi) (hold j pj (hg.ids j oj hj) qj) he
  · simp only [Tr.get_set] at hid
    by_cases e : id = s.nx
    · show id < s.nx + 1; omega
    · rw [if_neg e] at hid
      have := hg.ids id o' hid
      show id < s.nx + 1; omega
  · rcases Nat.lt_or_ge id φ.length with h | h
    · rw [List.getElem?_append_left h] at hq
      exact hg.lo id q hq
    · rw [List.getElem?_append_right h] at hq
      have : q = p := by
        cases e : id - φ.length with
        | zero => rw [e] at hq; simp at hq; exact hq.symm
        | succ k => rw [e] at hq; simp at hq
      subst this
      exact ⟨hlo, hhi⟩
  · rcases Nat.lt_or_ge id φ.length with h | h
    · rw [List.getElem?_append_left h] at hq
      exact (hg.fr x hx).2.2 id q hq
    · rw [List.getElem?_append_right h] at hq
      have : q = p := by
        cases e : id - φ.length with
        | zero => rw [e] at hq; simp at hq; exact hq.symm
        | succ k => rw [e] at hq; simp at hq
      subst this
      exact hfr x hx

/-- the world goes on, what is live stays -/
theorem Gm.world (hg : Gm P ρ w0 φ s w) (hk : Kp [] w0.w0 w') (hsz : w.heap.size ≤ w'.heap.size) (he : ∀ i o q, s.hp.get i = some o → live o = true → φ[i]? = some q → w'.heap[q.blk]? = w.heap[q.blk]?) (hf : ∀ x ∈ w0.fr, x.1 < w.heap.size → (∀ (id : Nat) (p : Pl), φ[id]? = some p → p.blk ≠ x.1) → w'.heap[x.1]? = w.heap[x.1]?) : Gm P ρ w0 φ s w' :=
  ⟨⟨fun id o hid => (hg.hp.obj id o hid).world fun p hl hp => he id o p hid hl hp, hg.hp.sep⟩, hg.len, hg.ids, fun id p hp => ⟨(hg.lo id p hp).1, Nat.lt_of_lt_of_le (hg.lo id p hp).2 hsz⟩, hk, fun x hx => ⟨Nat.lt_of_lt_of_le (hg.fr x hx).1 hsz, (hf x hx (hg.fr x hx).1 (hg.fr x hx).2.2).trans (hg.fr x hx).2.1, (hg.fr x hx).2.2⟩, hg.fo⟩
theorem Gm.pc (hg : Gm P ρ w0 φ s w) (pc : PC) : Gm P ρ w0 φ ⟨s.hp, s.nx, pc⟩ w := ⟨hg.hp, hg.len, hg.ids, hg.lo, hg.kp, hg.fr, hg.fo⟩
theorem Gm.push (hg : Gm P ρ w0 φ s w) (o : Obj) : Gm P ρ w0 φ s { w with heap := w.heap.push o } := by
  refine hg.world (hg.kp.alloc o) (by simp) (fun i o' q hi hl hq => ?_) (fun x hx hlt _ => ?_)
  · have := (hg.lo i q hq).2
    show (w.heap.push o)[q.blk]? = _
    rw [Array.getElem?_push_lt this, Array.getElem?_eq_getElem this]
  · show (w.heap.push o)[x.1]? = _
    rw [Array.getElem?_push_lt hlt, Array.getElem?_eq_getElem hlt]
theorem Gm.kill (hg : Gm P ρ w0 φ s w) {id : Nat} {o : AObj} (hid : s.hp.get id = some o) : Gm P ρ w0 φ (killS s id) w := by
  refine ⟨⟨fun i o' hi => ?_, fun i j oi oj pi pj hi hj li lj qi qj he => ?_⟩, hg.len, fun i o' hi => ?_, hg.lo, hg.kp, hg.fr, hg.fo⟩
  · simp only [killS, Tr.get_set] at hi
    by_cases e : i = id
    · subst e
      rw [if_pos rfl] at hi; cases hi
      exact (hg.hp.obj _ _ hid).pl
    · rw [if_neg e] at hi; exact hg.hp.obj i o' hi
  · simp only [killS, Tr.get_set] at hi hj
    by_cases ei : i = id
    · rw [if_pos ei] at hi; cases hi; cases li
    · by_cases ej : j = id
      · rw [if_pos ej] at hj; cases hj; cases lj
      · rw [if_neg ei] at hi
        rw [if_neg ej] at hj
        exact hg.hp.sep i j oi oj pi pj hi hj li lj qi qj he
  · simp only [killS, Tr.get_set] at hi
    show i < s.nx
    by_cases e : i = id
    · rw [e]; exact hg.ids _ _ hid
    · rw [if_neg e] at hi; exact hg.ids i o' hi
theorem Gm.kill_free (hg : Gm P ρ w0 φ s w) {id : Nat} {o : AObj} {p : Pl} (hid : s.hp.get id = some o) (hl : live o = true) (hp : φ[id]? = some p) : ∀ i o' q, (killS s id).hp.get i = some o' → live o' = true → φ[i]? = some q → q.blk ≠ p.blk := by
  intro i o' q hi hl' hq he
  simp only [killS, Tr.get_set] at hi
  by_cases e : i = id
  · rw [if_pos e] at hi; cases hi; cases hl'
  · rw [if_neg e] at hi
    exact e (hg.hp.sep i id o' o q p hi hid hl' hl hq hp he)

/-! rows of cells -/
theorem setL_get : ∀ (l : List AV) (off : Nat) (c : Tr AV) (i : Nat), (setL c off l).get i = if off ≤ i ∧ i < off + l.length then l[i - off]? else c.get i
  | [], off, c, i => by rw [if_neg (by simp only [List.length_nil]; omega)]; rfl
  | v :: l, off, c, i => by
    show (setL (c.set off v) (off + 1) l).get i = _
    rw [setL_get l (off + 1) (c.set off v) i, Tr.get_set]
    simp only [List.length_cons]
    by_cases h1 : i = off
    · subst h1
      rw [if_neg (by omega), if_pos rfl, if_pos (by omega)]
      simp
    · rw [if_neg h1]
      by_cases h2 : off + 1 ≤ i ∧ i < off + 1 + l.length
      · rw [if_pos h2, if_pos (by omega), show i - off = (i - (off + 1)) + 1 by omega]
        simp
      · rw [if_neg h2, if_neg (by omega)]
theorem lenL_eq : ∀ (l : List AV), lenL l = l.length
  | [] => rfl
  | v :: l => by show lenL l + 1 = _; rw [lenL_eq l]; rfl
theorem allOne_spec : ∀ {l : List AV}, allOne l = true → ∀ v ∈ l, oneB v = true
  | [], _, v, hv => by simp at hv
  | u :: l, h, v, hv => by
    have h : Bool.rec (motive := fun _ => Bool) false (allOne l) (oneB u) = true := h
    cases hu : oneB u with
    | false => rw [hu] at h; cases h
    | true =>
      rw [hu] at h
      rcases List.mem_cons.1 hv with rfl | hv
      · exact hu
      · exact allOne_spec h v hv
theorem one_conc {v : AV} (h : oneB v = true) {x : Value} (hx : conc φ ρ v = some x) : x.oneCell' = true := by
  cases v <;> simp only [conc, Option.map_eq_some_iff, Option.bind_eq_some_iff, Option.some.injEq] at hx
  case int => subst hx; rfl
  case bool => subst hx; rfl
  case ptr => obtain ⟨p, _, rfl⟩ := hx; rfl
  case sl => obtain ⟨p, _, rfl⟩ := hx; rfl
  case emp => obtain ⟨p, _, rfl⟩ := hx; split <;> rfl
  case em0 => obtain ⟨p, _, rfl⟩ := hx; rfl
  case map => obtain ⟨p, _, rfl⟩ := hx; rfl
  case fn => obtain ⟨p, _, q, _, rfl⟩ := hx; rfl
  case iface => obtain ⟨p, _, rfl⟩ := hx; rfl
  case agg => cases h
  case tup => cases h
  case raw =>
    subst hx
    rename_i y
    have h : rawOk y = true := h
    cases y <;> first | rfl | (cases h; done)
  case opq => cases h
  case osl => subst hx; rfl
  case dfr => cases h
  case ssl cap => obtain ⟨p, _, rfl⟩ := hx; cases cap with | some c => rfl | none => dsimp only; split <;> rfl
  case fsl => split at hx <;> cases hx; rfl

/-- cells of a new row, ahead of what else stands there -/
theorem CelOk.row {l : List AV} {xs : List Value} (hx : concL φ ρ l = some xs) (h1 : allOne l = true) {p : Pl} {arr : Array Value} {fz : Nat × Nat} {T : TypeId} {row : Bool} (hb : w.heap[p.blk]? = some (.cells arr T fz)) (hsz : arr.size = p.sz) (hle : p.sh + l.length ≤ p.sz)
    (hfix : row = false → p.sh = 0 ∧ p.sz = l.length ∧ fz = (0, 0) ∧ p.es = 1) (hes : row = true → sizeA P T = some p.es ∧ 0 < p.es) (hfr : ∀ i, i < p.sz → ¬ (fz.1 ≤ i ∧ i < fz.2)) (hc : ∀ i, i < l.length → arr[p.sh + i]? = xs[i]?) : CelOk P φ ρ w p arr fz l.length (trOf l) none T row := by
  refine ⟨hb, hsz, hle, hfix, hes, hfr, fun i hi => ?_⟩
  have hv : l[i]? = some l[i] := List.getElem?_eq_getElem hi
  obtain ⟨x, hx1, hx2⟩ := concL_get hx hv
  refine ⟨l[i], x, ?_, hx1, ?_, allOne_spec h1 _ (List.getElem_mem hi)⟩
  · unfold celA trOf
    rw [setL_get, if_pos (by simp; exact hi)]
    simp [hv]
  · rw [hc i hi, hx2]

/-- a row of cells is stored -/
theorem storeCells_run {g o : Nat} {T : TypeId} {fz : Nat × Nat} : ∀ (vs : List Value) (i : Nat) (w : World) (arr : Array Value), w.heap[g]? = some (.cells arr T fz) → o + i + vs.length ≤ arr.size → (∀ i, i < arr.size → ¬ (fz.1 ≤ i ∧ i < fz.2)) → (∀ v ∈ vs, v.oneCell' = true) →
    ∃ w' arr', (storeCells ⟨g, o, none⟩ vs i).run P w = .ok () w' ∧ w'.heap[g]? = some (.cells arr' T fz) ∧ arr'.size = arr.size ∧ (∀ k, arr'[k]? = if o + i ≤ k ∧ k < o + i + vs.length then vs[k - (o + i)]? else arr[k]?) ∧ Kp [g] w w' ∧ w'.heap.size = w.heap.size
  | [], i, w, arr, hb, _, _, _ => ⟨w, arr, rfl, hb, rfl, fun k => by rw [if_neg (by simp only [List.length_nil]; omega)], .refl _ _, rfl⟩
  | v :: vs, i, w, arr, hb, hle, hfr, h1 => by
    simp only [List.length_cons] at hle
    have hlt : o + i < arr.size := by omega
    have hcell : w.cell? ⟨g, o + i, none⟩ = some arr[o + i] := by unfold World.cell?; simp [hb, hlt]
    have hfz : w.frozen? ⟨g, o + i, none⟩ = false := by
      unfold World.frozen?
      simp only [hb]
      have := hfr (o + i) hlt
      simp only [Bool.and_eq_false_iff, decide_eq_false_iff_not]
      omega
    have hst : (store ((⟨g, o, none⟩ : Addr).add i) v).run P w = .ok () (w.setCell ⟨g, o + i, none⟩ v) := by
      rw [add_plain, run_store P w _ v .plain (h1 v (by simp))]
      simp [hcell, hfz]
    have hb' : (w.setCell ⟨g, o + i, none⟩ v).heap[g]? = some (.cells (arr.setIfInBounds (o + i) v) T fz) := by
      simp [World.setCell, Array.getElem?_modify, hb]
    obtain ⟨w', arr', r1, r2, r3, r4, r5, r6⟩  := storeCells_run (o := o) vs (i + 1) (w.setCell ⟨g, o + i, none⟩ v) _ hb' (by simp; omega) (by simpa using hfr) (fun u hu => h1 u (by simp [hu]))
    refine ⟨w', arr', ?_, r2, by rw [r3]; simp, fun k => ?_, ?_, by rw [r6]; simp [World.setCell]⟩
    · rw [storeCells, Sem.run_bind, hst]; exact r1
    · rw [r4 k]
      simp only [List.length_cons]
      rcases Nat.lt_trichotomy k (o + i) with h | h | h
      · rw [if_neg (by omega), if_neg (by omega), Array.getElem?_setIfInBounds_ne (by omega)]
      · subst h
        rw [if_neg (by omega), if_pos (by omega)]
        simp [hlt]
      · by_cases h2 : k < o + (i + 1) + vs.length
        · rw [if_pos (by omega), if_pos (by omega), show k - (o + i) = (k - (o + (i + 1))) + 1 by omega]
          simp
        · rw [if_neg (by omega), if_neg (by omega), Array.getElem?_setIfInBounds_ne (by omega)]
    · exact (Kp.setCell (Kp.refl [g] w) (.inl (by simp)) v).trans r5
end

end Go.Proofs.YticednpolhnneaaGreat
