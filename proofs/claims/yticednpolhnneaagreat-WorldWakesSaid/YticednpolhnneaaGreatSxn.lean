/-
  A run reckoned ahead: operations with an effect do what was reckoned (4): grown rows, maps.
-/
import Derived.Test.YticednpolhnneaaGreatSxm
set_option linter.unusedVariables false
set_option linter.unusedSimpArgs false
namespace Go.Proofs.YticednpolhnneaaGreat
open Go

section
variable {P : Program} {ρ : Nat → Int} {w0 : Base} {D : Dn}

theorem one_all {φ : List Pl} {l : List AV} (h1 : allOne l = true) {xs : List Value} (hx : concL φ ρ l = some xs) : ∀ v ∈ xs, v.oneCell' = true := by
  intro v hv
  have hxl := concL_length hx
  obtain ⟨i, hi, rfl⟩ := List.mem_iff_getElem.1 hv
  have hi' : i < l.length := by omega
  obtain ⟨x, e1, e2⟩ := concL_get hx (List.getElem?_eq_getElem hi')
  rw [List.getElem?_eq_getElem hi] at e2
  cases e2
  exact one_conc (allOne_spec h1 _ (List.getElem_mem hi')) e1
theorem newL_one {s : St} {l : List AV} {T : TypeId} {row : Bool} {κ : Nat → St → R} (hD : newL s l T row κ ∈ D) : allOne l = true := (brec_inv hD).1
theorem growK_one {e sz need : Nat} {s : St} {κ : AV → St → R} {old new : List AV} (hD : growK P s e sz need old new κ ∈ D) : allOne new = true := by
  obtain ⟨_, h1⟩ := brec_inv hD
  have h := newL_one h1
  clear hD h1
  induction old with
  | nil => exact h
  | cons v l ih =>
    have h : Bool.rec (motive := fun _ => Bool) false (allOne (l ++ new)) (oneB v) = true := h
    cases hv : oneB v with
    | false => rw [hv] at h; cases h
    | true => rw [hv] at h; exact ih h

/-- cells are put behind what is known of a row, which is given up -/
theorem store_beyond {φ : List Pl} {s : St} {w : World} (hg : Gm P ρ w0 φ s w) {id k : Nat} {c : Tr AV} {d : Option AV} {T : TypeId} {r : Bool} (hid : s.hp.get id = some (.cells k c d T r)) {p : Pl} (hp : φ[id]? = some p) {o : Nat} {xs : List Value} (h1 : ∀ v ∈ xs, v.oneCell' = true) (hle : p.sh + o + xs.length ≤ p.sz) :
    ∃ w' arr arr' fz, w.heap[p.blk]? = some (.cells arr T fz) ∧ (storeCells ⟨p.blk, p.sh + o, none⟩ xs).run P w = .ok () w' ∧ Gm P ρ w0 φ (killS s id) w' ∧ w'.heap[p.blk]? = some (.cells arr' T fz) ∧ arr'.size = p.sz ∧ (∀ i, i < p.sz → ¬ (fz.1 ≤ i ∧ i < fz.2)) ∧
      (∀ j, arr'[j]? = if p.sh + o ≤ j ∧ j < p.sh + o + xs.length then xs[j - (p.sh + o)]? else arr[j]?) ∧ p.blk < w'.heap.size := by
  obtain ⟨p', arr, fz, hp', hc⟩ := hg.hp.obj _ _ hid
  rw [hp] at hp'; cases hp'
  have hsz := hc.size
  obtain ⟨w', arr', r1, r2, r3, r4, r5, r6⟩ := storeCells_run (P := P) (g := p.blk) (o := p.sh + o) xs 0 w arr hc.blk (by omega) (by rw [hsz]; exact hc.fr) h1
  have hlo := hg.lo id p hp
  refine ⟨w', arr, arr', fz, hc.blk, r1, (hg.kill hid).world ?_ (by rw [r6]; exact Nat.le_refl _) (fun i o' q hi hl hq => ?_) (fun x hx hlt hne => r5.block x.1 hlt (by simp only [List.mem_singleton]; exact fun e => hne id p hp e.symm)), r2, by rw [r3, hsz], hc.fr, fun j => by simpa using r4 j, by rw [r6]; exact hlo.2⟩
  · refine hg.kp.trans' r5 (fun _ h => .inl h) fun i hi => .inr ?_
    simp only [List.mem_singleton] at hi
    subst hi
    exact hlo.1
  · refine r5.block q.blk (hg.lo i q hq).2 ?_
    simp only [List.mem_singleton]
    exact hg.kill_free hid rfl hp i o' q hi hl hq

theorem first_sl {h : Tr AObj} {s n id off len : Nat} {cap : Option Nat} {κ : List AV → R} (hD : firstK h s n (.sl id off len cap) κ ∈ D) {m : Nat} {c : Tr AV} {d : Option AV} {T : TypeId} {r : Bool} (hid : h.get id = some (.cells m c d T r)) :
    ∃ l, κ l ∈ D ∧ l.length = n * s ∧ (∀ i, i < n * s → celA c d (off + i) = l[i]?) ∧ ∀ {φ w y}, Hp P φ ρ h w → conc φ ρ (.sl id off len cap) = some y → ∃ arr, (Builtin.firstCells s n y).run P w = .ok arr w ∧ concL φ ρ l = some arr.toList := by
  have hD : objK h id (fun m c d _ _ => Bool.rec (motive := fun _ => R) (.fail 124) (ldN c d off (Nat.mul n s) κ) (Nat.ble (Nat.add off (Nat.mul n s)) m)) ∈ D := hD
  obtain ⟨m', c', d', T', r', hg, h1⟩ := objK_inv hD
  rw [hid] at hg
  cases hg
  obtain ⟨hle, h2⟩ := brec_inv h1
  rw [natBle] at hle
  have hle : off + n * s ≤ m := of_decide_eq_true hle
  obtain ⟨l, hl, h3, hcl⟩ := ldN_inv h2
  have hl : l.length = n * s := hl
  refine ⟨l, h3, hl, fun i hi => hcl i hi, fun {φ w y} hp hy => ?_⟩
  obtain ⟨p, arr, fz, hpl, hc⟩ := hp.obj _ _ hid
  obtain ⟨p', hp', rfl⟩ := conc_sl hy
  rw [hpl] at hp'; cases hp'
  obtain ⟨xs, hxs, hcx⟩ := cells_row hc l off (by rw [hl]; exact hle) (fun i hi => hcl i (by rw [hl] at hi; exact hi))
  have hr := run_loadCells_list (P := P) (w := w) ⟨p.blk, p.sh + off, none⟩ xs hcx
  have hm : xs.length = n * s := by rw [concL_length hxs, hl]
  rw [hm] at hr
  exact ⟨xs.toArray, hr, by simpa using hxs⟩
theorem first_any {h : Tr AObj} {s n : Nat} {x : AV} {l : List AV} {φ : List Pl} {w : World} {y : Value} (hf : ∀ {φ w y}, Hp P φ ρ h w → conc φ ρ x = some y → ∃ arr, (Builtin.firstCells s n y).run P w = .ok arr w ∧ concL φ ρ l = some arr.toList) (hp : Hp P φ ρ h w) (hy : conc φ ρ x = some y) :
    ∃ arr : Array Value, concL φ ρ l = some arr.toList ∧ ∀ w' : World, w'.heap = w.heap → (Builtin.firstCells s n y).run P w' = .ok arr w' := by
  obtain ⟨arr, r1, r2⟩ := hf hp hy
  refine ⟨arr, r2, fun w' hw' => ?_⟩
  have hp' : Hp P φ ρ h w' := ⟨fun id o hid => (hp.obj id o hid).world fun p _ _ => by rw [hw'], hp.sep⟩
  obtain ⟨arr', q1, q2⟩ := hf hp' hy
  rw [r2] at q2
  have : arr = arr' := Array.toList_inj.1 (Option.some.inj q2)
  rw [this]; exact q1

theorem first_zero {s c : Nat} {p : Option Addr} {w : World} : (Builtin.firstCells s 0 (.slice p 0 c)).run P w = .ok #[] w := by
  cases p <;> simp [Builtin.firstCells, loadCells, loadCellsFrom]

/-- what append owes -/
def AppO (P : Program) (ρ : Nat → Int) (w0 : Base) (φ : List Pl) (w : World) (s' : St) (Ts : Array TypeId) (a b : Value) (v : AV) : Prop :=
  ∃ φ' z w', φ <+: φ' ∧ conc φ' ρ v = some z ∧ Gm P ρ w0 φ' s' w' ∧ ∀ R', (Builtin.append_ Ts R' #[a, b]).run P w = .ok z w'

theorem room_le {p : Pl} {off m sz k : Nat} (hes : p.es = sz) (hsz : 0 < sz) (h1 : off + m * sz ≤ k) (h2 : p.sh + k ≤ p.sz) : m ≤ p.room off := by
  unfold Pl.room
  rw [hes, Nat.le_div_iff_mul_le hsz]
  omega
theorem le_room {p : Pl} {off m sz : Nat} (hes : p.es = sz) (hsz : 0 < sz) (h : m ≤ p.room off) (h0 : p.sh + off ≤ p.sz) : p.sh + off + m * sz ≤ p.sz := by
  unfold Pl.room at h
  rw [hes, Nat.le_div_iff_mul_le hsz] at h
  omega

theorem AppO.swap {φ : List Pl} {s : St} {w : World} {Ts : Array TypeId} {a b : Value} {v : AV} {id n : Nat} {c c' : Tr AV} {d d' : Option AV} {T : TypeId} {r : Bool} (ho : AppO P ρ w0 φ w s Ts a b v) (hid : s.hp.get id = some (.cells n c d T r)) (h : ∀ i, i < n → celA c' d' i = celA c d i) : AppO P ρ w0 φ w ⟨s.hp.set id (.cells n c' d' T r), s.nx, s.pc⟩ Ts a b v := by
  obtain ⟨φ', z, w', h1, h2, h3, h4⟩ := ho
  exact ⟨φ', z, w', h1, h2, h3.swap hid h, h4⟩
theorem app_regrow {Ts : Array TypeId} {T e sz n id off len : Nat} {s : St} {y : AV} {l : List AV} {c : Tr AV} {d : Option AV} {κ : AV → St → R} (hT : Ts[0]? = some T) (hn1 : notIntT P (Ts[1]?) = true) (hu : P.underlying T = some (.slice e)) (hs : sizeA P e = some sz) (hn : lenV y = some n)
    (hf : ∀ {φ w z}, Hp P φ ρ s.hp w → conc φ ρ y = some z → ∃ arr, (Builtin.firstCells sz n z).run P w = .ok arr w ∧ concL φ ρ l = some arr.toList) (hll : l.length = n * sz) (hid : s.hp.get id = some (.cells (off + len * sz) c d e true))
    (h9 : firstK s.hp sz len (.sl id off len none) (fun old => growK P (killS s id) e sz (len + n) old l κ) ∈ D) : ∃ v s', κ v s' ∈ D ∧ s'.pc = s.pc ∧ ∀ {w0 φ w a b}, Gm P ρ w0 φ s w → conc φ ρ (.sl id off len none) = some a → conc φ ρ y = some b → AppO P ρ w0 φ w s' Ts a b v := by
  obtain ⟨old, h10, hol, hcl, hof⟩ := first_sl (P := P) (ρ := ρ) h9 hid
  have h1n := growK_one h10
  obtain ⟨hok, v, s', h11, hpc, hnew, hin⟩ := grow_new (P := P) (ρ := ρ) (sLen := len) (n := n) h10 hs rfl
  obtain ⟨i, z, hi, hz, hb0', hsz0, hmax, hcb⟩ := growOk_spec hok
  refine ⟨v, s', h11, hpc, fun {w0 φ w a b} hg ha hb' => ?_⟩
  obtain ⟨na, q1, q2⟩ := first_any hf hg.hp hb'
  obtain ⟨oa, q3, q4⟩ := first_any hof hg.hp ha
  obtain ⟨p, hp, rfl⟩ := conc_sl ha
  obtain ⟨p', arr0, fz0, hp', hc⟩ := hg.hp.obj _ _ hid
  rw [hp] at hp'; cases hp'
  have hes : p.es = sz := by
    have := (hc.es rfl).1
    rw [hs] at this
    exact (Option.some.inj this).symm
  have hcle := hc.le
  have hoa : oa.size = len * sz := by rw [← Array.length_toList, concL_length q3, hol]
  have hna : na.size = n * sz := by rw [← Array.length_toList, concL_length q1, hll]
  rcases Nat.lt_or_ge (p.room off) (len + n) with hroom | hroom
  · obtain ⟨φ', zz, w', r1, r2, r3, r4⟩ := hnew (hg.kill hid) hT hn1 hu (lenOf_run hn hb') hroom oa na q4 q2 q3 q1 hol hll
    exact ⟨φ', zz, w', r1, r2, r3, r4⟩
  · have hfit := le_room hes hsz0 hroom (by omega)
    rw [Nat.add_mul] at hfit
    obtain ⟨w', arr, arr', fz, b1, b2, b3, b4, b5, b6, b7, b8⟩ := store_beyond hg hid hp (o := off + len * sz) (xs := na.toList) (one_all h1n q1) (by rw [Array.length_toList, hna]; omega)
    have harr : arr = arr0 := by
      have := hc.blk
      rw [b1] at this
      simp at this; exact this.1
    subst harr
    have hcat := concL_append.2 ⟨_, _, q3, q1, rfl⟩
    obtain ⟨φ', r1, r2, r3⟩ := hin (pl := p) (q := off) (arr := arr') (fz := fz) b3 hcat hes (hg.lo id p hp).1 b8 (fun i o' q hi hl hq => hg.kill_free hid rfl hp i o' q hi hl hq) b4 b5 (by rw [List.length_append, hol, hll]; omega) b6 (fun i hi => by
      rw [List.length_append, hol, hll] at hi
      rw [b7]
      by_cases h : i < len * sz
      · rw [if_neg (by omega), List.getElem?_append_left (by rw [Array.length_toList, hoa]; exact h)]
        obtain ⟨xs, e1, e2⟩ := cells_row hc old off (by rw [hol]; omega) (fun j hj => hcl j (by rw [hol] at hj; exact hj))
        rw [q3] at e1
        cases e1
        have hx : oa.toList[i]? = some (oa.toList[i]'(by rw [Array.length_toList, hoa]; exact h)) := List.getElem?_eq_getElem _
        have := e2 i _ hx
        rw [add_plain] at this
        unfold World.cell? at this
        simp only [b1, Option.isSome_none, Bool.false_eq_true, if_false] at this
        rw [this, hx]
      · rw [if_pos (by rw [Array.length_toList, hna]; omega), List.getElem?_append_right (by rw [Array.length_toList, hoa]; omega)]
        congr 1
        rw [Array.length_toList, hoa]; omega) (fun x hx => (hg.fr x hx).2.2 id p hp)
    refine ⟨φ', _, w', r1, r2, r3, append_in hT hn1 hu hs (lenOf_run hn hb') hroom na (q2 w rfl) ?_⟩
    show (storeCells ((⟨p.blk, p.sh + off, none⟩ : Addr).add (len * sz)) na.toList).run P w = _
    rw [add_plain, Nat.add_assoc]; exact b2

theorem appG_sound {Ts : Array TypeId} {T e sz n : Nat} {s : St} {x y : AV} {κ : AV → St → R} (hT : Ts[0]? = some T) (hn1 : notIntT P (Ts[1]?) = true) (hu : P.underlying T = some (.slice e)) (hs : sizeA P e = some sz) (hn : lenV y = some n)
    (h4 : appG P e sz n s x y κ ∈ D) : ∃ v s', κ v s' ∈ D ∧ s'.pc = s.pc ∧ ∀ {w0 φ w a b}, Gm P ρ w0 φ s w → conc φ ρ x = some a → conc φ ρ y = some b → AppO P ρ w0 φ w s' Ts a b v := by
  obtain ⟨l, h5, hll, hf⟩ := firstK_sound (P := P) (ρ := ρ) (show firstK s.hp sz n y (appK P e sz n s x κ) ∈ D from h4)
  have hll := hll n hn (Nat.le_refl _)
  unfold appK at h5
  split at h5
  · -- nil
    rcases brec_cases h5 with ⟨hb, h6⟩ | ⟨hb, h6⟩
    · rw [natBeq] at hb
      have hb := of_decide_eq_true hb
      have hb : n = 0 := hb
      subst hb
      refine ⟨_, s, h6, rfl, fun {w0 φ w a b} hg ha hb => ?_⟩
      simp only [conc, Option.some.injEq] at ha
      subst ha
      obtain ⟨na, q1, q2⟩ := first_any hf hg.hp hb
      exact ⟨φ, _, w, List.prefix_refl _, rfl, hg, append_in hT hn1 hu hs (lenOf_run hn hb) (by omega) na (q2 w rfl) rfl⟩
    · rw [natBeq] at hb
      have hb : ¬ n = 0 := of_decide_eq_false hb
      obtain ⟨hok, v, s', h7, hpc, hnew, _⟩ := grow_new (P := P) (ρ := ρ) (sLen := 0) (n := n) h6 hs (by omega)
      refine ⟨v, s', h7, hpc, fun {w0 φ w a b} hg ha hb => ?_⟩
      simp only [conc, Option.some.injEq] at ha
      subst ha
      obtain ⟨na, q1, q2⟩ := first_any hf hg.hp hb
      exact hnew hg hT hn1 hu (lenOf_run hn hb) (show 0 < n by omega) #[] na (fun w' _ => first_zero) q2 rfl q1 (by simp) hll
  · -- a slice whose room is known
    rename_i id off len c
    unfold appC at h5
    rw [forceN_eq] at h5
    rcases brec_cases h5 with ⟨hb, h6⟩ | ⟨hb, h6⟩
    · rw [natBle] at hb
      have hb : len + n ≤ c := of_decide_eq_true hb
      obtain ⟨s', h7, hpc, h8⟩ := stP_sound (P := P) (ρ := ρ) h6
      refine ⟨_, s', h7, hpc, fun {w0 φ w a b} hg ha hb' => ?_⟩
      obtain ⟨p, hp, rfl⟩ := conc_sl ha
      obtain ⟨na, q1, q2⟩ := first_any hf hg.hp hb'
      obtain ⟨w', r1, r2⟩ := h8 hg hp q1
      refine ⟨φ, _, w', List.prefix_refl _, ?_, r2, append_in hT hn1 hu hs (lenOf_run hn hb') hb na (q2 w rfl) ?_⟩
      · simp only [conc, hp, Option.map_some]; rfl
      · show (storeCells ((⟨p.blk, p.sh + off, none⟩ : Addr).add (len * sz)) na.toList).run P w = _
        rw [add_plain, Nat.add_assoc]; exact r1
    · rw [natBle] at hb
      have hb : ¬ len + n ≤ c := of_decide_eq_false hb
      obtain ⟨old, h7, hol, hof⟩ := firstK_sound (P := P) (ρ := ρ) h6
      have hol := hol len rfl (Nat.le_refl _)
      obtain ⟨hok, v, s', h8, hpc, hnew, _⟩ := grow_new (P := P) (ρ := ρ) (sLen := len) (n := n) h7 hs rfl
      refine ⟨v, s', h8, hpc, fun {w0 φ w a b} hg ha hb' => ?_⟩
      obtain ⟨na, q1, q2⟩ := first_any hf hg.hp hb'
      obtain ⟨oa, q3, q4⟩ := first_any hof hg.hp ha
      obtain ⟨p, hp, rfl⟩ := conc_sl ha
      exact hnew hg hT hn1 hu (lenOf_run hn hb') (by show c < len + n; omega) oa na q4 q2 q3 q1 hol hll
  · -- a slice whose room is not known
    rename_i id off len
    unfold appU at h5
    rw [forceN_eq] at h5
    obtain ⟨k, c, d, T', r, hid, h7⟩ := objK_inv h5
    obtain ⟨hb, h8⟩ := brec_inv h7
    simp only [Bool.and_eq_true, natBeq, decide_eq_true_eq] at hb
    obtain ⟨hTe, rfl⟩ := hb
    have hTe := hTe.symm
    subst hTe
    rcases brec_cases h8 with ⟨hb, h9⟩ | ⟨hb, h9⟩
    · rw [natBeq] at hb
      have hb : off + len * sz = k := of_decide_eq_true hb
      subst hb
      rcases brec_cases h9 with ⟨hb0, h9⟩ | ⟨_, h9⟩
      · rw [natBeq] at hb0
        have hb0 : off = 0 := of_decide_eq_true hb0
        subst hb0
        obtain ⟨hb2, h10⟩ := brec_inv h9
        simp only [Bool.and_eq_true] at hb2
        obtain ⟨hok0, h1l⟩ := hb2
        have hok : growOk P e sz (len + n) = true := hok0
        rw [forceN_eq] at h10
        have h11 : κ (.sl s.nx 0 (len + n) none) ⟨(s.hp.set id .dead).set s.nx (.cells (0 + len * sz + lenL l) (setL c (0 + len * sz) l) d e true), s.nx + 1, s.pc⟩ ∈ D := by
          have h10 : forceN s.nx (fun nx => κ (.sl nx 0 (len + n) none) ⟨(s.hp.set id .dead).set nx (.cells (0 + len * sz + lenL l) (setL c (0 + len * sz) l) d e true), Nat.succ nx, s.pc⟩) ∈ D := h10
          rwa [forceN_eq] at h10
        refine ⟨_, _, h11, rfl, fun {w0 φ w a b} hg ha hb' => ?_⟩
        obtain ⟨p', arr0, fz0, hp', hc⟩ := hg.hp.obj _ _ hid
        obtain ⟨old, hol, hld, hget⟩ := ldN_ok (c := c) (d := d) (len * sz) 0 fun i hi => by
          obtain ⟨v, x, e1, _⟩ := hc.cell i (by omega)
          exact ⟨v, by rw [Nat.zero_add]; exact e1⟩
        have hone : allOne (old ++ l) = true := allOne_of fun v hv => by
          rcases List.mem_append.1 hv with h | h
          · obtain ⟨i, hi, rfl⟩ := List.mem_iff_getElem.1 h
            obtain ⟨u, x, e1, _, _, e4⟩ := hc.cell i (by omega)
            have := hget i (by omega)
            rw [Nat.zero_add, e1, List.getElem?_eq_getElem hi] at this
            rw [Option.some.inj this]; exact e4
          · exact allOne_mem h1l v h
        have hmem : firstK s.hp sz len (.sl id 0 len none) (fun old => growK P (killS s id) e sz (len + n) old l R.done) ∈ Dn.mk ρ (.sl s.nx 0 (len + n) none) ⟨(s.hp.set id .dead).set s.nx (.cells (lenL (old ++ l)) (trOf (old ++ l)) none e true), s.nx + 1, s.pc⟩ := by
          show objK s.hp id (fun m c d _ _ => Bool.rec (motive := fun _ => R) (.fail 124) (ldN c d 0 (Nat.mul len sz) _) (Nat.ble (Nat.add 0 (Nat.mul len sz)) m)) ∈ (_ : Dn)
          unfold objK
          rw [hid]
          show Bool.rec (motive := fun _ => R) (.fail 124) (ldN c d 0 (len * sz) _) (Nat.ble (0 + len * sz) (0 + len * sz)) ∈ (_ : Dn)
          rw [natBle, decide_eq_true (Nat.le_refl _)]
          show ldN c d 0 (len * sz) _ ∈ (_ : Dn)
          rw [hld]
          show Bool.rec (motive := fun _ => R) (.fail 127) (newL (killS s id) (old ++ l) e true _) (growOk P e sz (len + n)) ∈ (_ : Dn)
          rw [hok]
          show Bool.rec (motive := fun _ => R) (.fail 100) (forceN (lenL (old ++ l)) _) (allOne (old ++ l)) ∈ (_ : Dn)
          rw [hone]
          show forceN (lenL (old ++ l)) _ ∈ (_ : Dn)
          rw [forceN_eq]
          unfold newK killS
          simp only [forceN_eq]
          exact ⟨rfl, rfl⟩
        obtain ⟨v0, s0, h12, hpc0, h13⟩ := app_regrow (D := Dn.mk ρ (.sl s.nx 0 (len + n) none) ⟨(s.hp.set id .dead).set s.nx (.cells (lenL (old ++ l)) (trOf (old ++ l)) none e true), s.nx + 1, s.pc⟩) (ρ := ρ) hT hn1 hu hs hn hf hll hid hmem
        obtain ⟨rfl, rfl⟩ := h12
        have h14 := (h13 hg ha hb').swap (id := s.nx) (n := lenL (old ++ l)) (c := trOf (old ++ l)) (d := none) (T := e) (r := true) (c' := setL c (0 + len * sz) l) (d' := d) (by simp [Tr.get_set]) fun i hi => by
          rw [lenL_eq, List.length_append] at hi
          unfold celA
          rw [setL_get, show trOf (old ++ l) = setL .nil 0 (old ++ l) from rfl, setL_get]
          by_cases h : i < len * sz
          · rw [if_neg (by omega), if_pos (by simp; omega), Nat.sub_zero, List.getElem?_append_left (by omega), hget i h, Nat.zero_add]
            obtain ⟨u, x, e1, _⟩ := hc.cell i (by omega)
            rw [e1]
            unfold celA at e1
            rw [e1]
          · rw [if_pos (by omega), if_pos (by simp; omega), Nat.sub_zero, List.getElem?_append_right (by omega), hol, Nat.zero_add]
            have : i - len * sz < l.length := by omega
            rw [List.getElem?_eq_getElem this]
        rw [show (lenL (old ++ l)) = 0 + len * sz + lenL l by rw [lenL_eq, lenL_eq, List.length_append, hol]; omega] at h14
        simpa [Tr.set_set] using h14
      · exact app_regrow hT hn1 hu hs hn hf hll hid h9
    · obtain ⟨hle, h10⟩ := brec_inv h9
      rw [natBle] at hle
      have hle : off + (len + n) * sz ≤ k := of_decide_eq_true hle
      obtain ⟨s', h11, hpc, h12⟩ := stP_sound (P := P) (ρ := ρ) h10
      refine ⟨_, s', h11, hpc, fun {w0 φ w a b} hg ha hb' => ?_⟩
      obtain ⟨na, q1, q2⟩ := first_any hf hg.hp hb'
      obtain ⟨p, hp, rfl⟩ := conc_sl ha
      obtain ⟨p', arr0, fz0, hp', hc⟩ := hg.hp.obj _ _ hid
      rw [hp] at hp'; cases hp'
      have hes := hc.es rfl
      rw [hs] at hes
      have hes1 : p.es = sz := (Option.some.inj hes.1).symm
      obtain ⟨w', r1, r2⟩ := h12 hg hp q1
      refine ⟨φ, _, w', List.prefix_refl _, ?_, r2, append_in hT hn1 hu hs (lenOf_run hn hb') (room_le hes1 (by rw [← hes1]; exact hes.2) hle hc.le) na (q2 w rfl) ?_⟩
      · simp only [conc, hp, Option.map_some]; rfl
      · show (storeCells ((⟨p.blk, p.sh + off, none⟩ : Addr).add (len * sz)) na.toList).run P w = _
        rw [add_plain, Nat.add_assoc]; exact r1
  · -- an exhausted one
    rename_i id off0 off
    rcases brec_cases h5 with ⟨hb, h6⟩ | ⟨hb0, h6⟩
    · rw [natBeq] at hb
      have hb : n = 0 := of_decide_eq_true hb
      subst hb
      refine ⟨_, s, h6, rfl, fun {w0 φ w a b} hg ha hb' => ?_⟩
      obtain ⟨na, q1, q2⟩ := first_any hf hg.hp hb'
      have hna : na.toList = [] := by
        have := concL_length q1
        rw [hll, Nat.zero_mul] at this
        exact List.length_eq_zero_iff.1 this
      have ha' := ha
      simp only [conc, Option.map_eq_some_iff] at ha
      obtain ⟨p, hp, rfl⟩ := ha
      by_cases hr : p.room off = 0
      · rw [if_pos hr] at ha' ⊢
        exact ⟨φ, _, w, List.prefix_refl _, ha', hg, append_in hT hn1 hu hs (lenOf_run hn hb') (by omega) na (q2 w rfl) (by rw [hna]; rfl)⟩
      · rw [if_neg hr] at ha' ⊢
        exact ⟨φ, _, w, List.prefix_refl _, ha', hg, append_in hT hn1 hu hs (lenOf_run hn hb') (by omega) na (q2 w rfl) (by rw [hna]; rfl)⟩
    · rw [natBeq] at hb0
      have hb0 : ¬ n = 0 := of_decide_eq_false hb0
      unfold appE at h6
      obtain ⟨k, c, d, T', r, hid, h7⟩ := objK_inv h6
      obtain ⟨hb, h10⟩ := brec_inv h7
      simp only [Bool.and_eq_true, natBeq, decide_eq_true_eq] at hb
      obtain ⟨rfl, rfl, rfl⟩ := hb
      have h1n := growK_one h10
      obtain ⟨hok, v, s', h11, hpc, hnew, hin⟩ := grow_new (P := P) (ρ := ρ) (sLen := 0) (n := n) h10 hs (by omega)
      obtain ⟨i, z, hi, hz, hb0', hsz0, hmax, hcb⟩ := growOk_spec hok
      refine ⟨v, s', h11, hpc, fun {w0 φ w a b} hg ha hb' => ?_⟩
      obtain ⟨na, q1, q2⟩ := first_any hf hg.hp hb'
      simp only [conc, Option.map_eq_some_iff] at ha
      obtain ⟨p, hp, rfl⟩ := ha
      obtain ⟨p', arr0, fz0, hp', hc⟩ := hg.hp.obj _ _ hid
      rw [hp] at hp'; cases hp'
      have hes : p.es = sz := by
        have := (hc.es rfl).1
        rw [hs] at this
        exact (Option.some.inj this).symm
      have hcle := hc.le
      have hna : na.size = n * sz := by rw [← Array.length_toList, concL_length q1, hll]
      by_cases hr : p.room off = 0
      · rw [if_pos hr]
        exact hnew (hg.kill hid) hT hn1 hu (lenOf_run hn hb') (show 0 < n by omega) #[] na (fun w' _ => first_zero) q2 rfl q1 (by simp) hll
      · rw [if_neg hr]
        rcases Nat.lt_or_ge (p.room off) n with hroom | hroom
        · exact hnew (hg.kill hid) hT hn1 hu (lenOf_run hn hb') hroom #[] na (fun w' _ => first_zero) q2 rfl q1 (by simp) hll
        · have hfit := le_room hes hsz0 hroom (by omega)
          obtain ⟨w', arr, arr', fz, b1, b2, b3, b4, b5, b6, b7, b8⟩ := store_beyond hg hid hp (o := off) (xs := na.toList) (one_all h1n q1) (by rw [Array.length_toList, hna]; omega)
          obtain ⟨φ', r1, r2, r3⟩ := hin (pl := p) (q := off) (arr := arr') (fz := fz) (xs := na.toList) b3 q1 hes (hg.lo id p hp).1 b8 (fun i o' q hi hl hq => hg.kill_free hid rfl hp i o' q hi hl hq) b4 b5 (by rw [List.nil_append, hll]; omega) b6 (fun i hi => by
            rw [List.nil_append, hll] at hi
            rw [b7, if_pos (by rw [Array.length_toList, hna]; omega)]
            congr 1; omega) (fun x hx => (hg.fr x hx).2.2 id p hp)
          refine ⟨φ', _, w', r1, r2, r3, ?_⟩
          have := append_in (P := P) (w' := w') (sLen := 0) (sCap := p.room off) (p := some ⟨p.blk, p.sh + off, none⟩) hT hn1 hu hs (lenOf_run hn hb') (by omega) na (q2 w rfl) (by
            show (storeCells ((⟨p.blk, p.sh + off, none⟩ : Addr).add (0 * sz)) na.toList).run P w = _
            rw [add_plain, Nat.zero_mul, Nat.add_zero]; exact b2)
          simpa using this
  · rcases brec_cases h5 with ⟨hb, h6⟩ | ⟨hb, h6⟩
    · rw [natBeq] at hb
      have hb : n = 0 := of_decide_eq_true hb
      subst hb
      refine ⟨_, s, h6, rfl, fun {w0 φ w a b} hg ha hb' => ?_⟩
      obtain ⟨na, q1, q2⟩ := first_any hf hg.hp hb'
      have hna : na.toList = [] := by
        have := concL_length q1
        rw [hll, Nat.zero_mul] at this
        exact List.length_eq_zero_iff.1 this
      have ha' := ha
      simp only [conc, Option.map_eq_some_iff] at ha
      obtain ⟨p, hp, rfl⟩ := ha
      exact ⟨φ, _, w, List.prefix_refl _, ha', hg, append_in hT hn1 hu hs (lenOf_run hn hb') (by omega) na (q2 w rfl) (by rw [hna]; rfl)⟩
    · rw [natBeq] at hb
      have hb0 : ¬ n = 0 := of_decide_eq_false hb
      obtain ⟨hok, v, s', h7, hpc, hnew, _⟩ := grow_new (P := P) (ρ := ρ) (sLen := 0) (n := n) h6 hs (by omega)
      refine ⟨v, s', h7, hpc, fun {w0 φ w a b} hg ha hb' => ?_⟩
      simp only [conc, Option.map_eq_some_iff] at ha
      obtain ⟨p, hp, rfl⟩ := ha
      obtain ⟨na, q1, q2⟩ := first_any hf hg.hp hb'
      exact hnew hg hT hn1 hu (lenOf_run hn hb') (show 0 < n by omega) #[] na (fun w' _ => first_zero) q2 rfl q1 (by simp) hll
  · cases h5
theorem appN_sound {Ts : Array TypeId} {T e sz n : Nat} {s : St} {x y : AV} {κ : AV → St → R} (hT : Ts[0]? = some T) (hn1 : notIntT P (Ts[1]?) = true) (hu : P.underlying T = some (.slice e)) (hs : sizeA P e = some sz) (hn : lenV y = some n)
    (h4 : appN P e sz n s x y κ ∈ D) : ∃ v s', κ v s' ∈ D ∧ s'.pc = s.pc ∧ ∀ {w0 φ w a b}, Gm P ρ w0 φ s w → conc φ ρ x = some a → conc φ ρ y = some b → AppO P ρ w0 φ w s' Ts a b v := by
  unfold appN at h4
  split at h4
  · split at h4
    · rename_i id off len cap
      rcases brec_cases h4 with ⟨hb, h5⟩ | ⟨_, h5⟩
      · simp only [Bool.and_eq_true, natBeq, notF_eq, Bool.not_eq_true', decide_eq_true_eq, decide_eq_false_iff_not] at hb
        obtain ⟨hb0, hb1⟩ := hb
        have hb0 : off = 0 := hb0
        have hb1 : ¬ n = 0 := hb1
        subst hb0
        obtain ⟨k, c, d, T', r, hid, h6⟩ := objK_inv h5
        obtain ⟨hle, h7⟩ := brec_inv h6
        rw [natBle] at hle
        have hle : n * sz ≤ k := of_decide_eq_true hle
        obtain ⟨hok, h8⟩ := brec_inv h7
        rw [forceN_eq] at h8
        have h11 : κ (.sl s.nx 0 n none) ⟨s.hp.set s.nx (.cells (n * sz) c d e true), s.nx + 1, s.pc⟩ ∈ D := by
          have h10 : forceN s.nx (fun nx => κ (.sl nx 0 n none) ⟨s.hp.set nx (.cells (n * sz) c d e true), Nat.succ nx, s.pc⟩) ∈ D := by cases s; exact h8
          rwa [forceN_eq] at h10
        refine ⟨_, _, h11, rfl, fun {w0 φ w a b} hg ha hb' => ?_⟩
        obtain ⟨p', arr0, fz0, hp', hc⟩ := hg.hp.obj _ _ hid
        obtain ⟨l, hol, hld, hget⟩ := ldN_ok (c := c) (d := d) (n * sz) 0 fun i hi => by
          obtain ⟨v, x, e1, _⟩ := hc.cell i (by omega)
          exact ⟨v, by rw [Nat.zero_add]; exact e1⟩
        have hone : allOne ([] ++ l) = true := allOne_of fun v hv => by
          obtain ⟨i, hi, rfl⟩ := List.mem_iff_getElem.1 hv
          obtain ⟨u, x, e1, _, _, e4⟩ := hc.cell i (by simp at hi; omega)
          have := hget i (by simp at hi; omega)
          rw [Nat.zero_add, e1, List.getElem?_eq_getElem (by simpa using hi)] at this
          simp only [List.nil_append]
          rw [Option.some.inj this]; exact e4
        have hmem : appG P e sz n s (.raw (.slice none 0 0)) (.sl id 0 len cap) R.done ∈ Dn.mk ρ (.sl s.nx 0 n none) ⟨s.hp.set s.nx (.cells (lenL ([] ++ l)) (trOf ([] ++ l)) none e true), s.nx + 1, s.pc⟩ := by
          show objK s.hp id (fun m c d _ _ => Bool.rec (motive := fun _ => R) (.fail 124) (ldN c d 0 (Nat.mul n sz) _) (Nat.ble (Nat.add 0 (Nat.mul n sz)) m)) ∈ (_ : Dn)
          unfold objK
          rw [hid]
          show Bool.rec (motive := fun _ => R) (.fail 124) (ldN c d 0 (n * sz) _) (Nat.ble (0 + n * sz) k) ∈ (_ : Dn)
          rw [natBle, decide_eq_true (by omega)]
          show ldN c d 0 (n * sz) _ ∈ (_ : Dn)
          rw [hld]
          show Bool.rec (motive := fun _ => R) (growK P s e sz n [] l R.done) _ (Nat.beq n 0) ∈ (_ : Dn)
          rw [natBeq, decide_eq_false hb1]
          show Bool.rec (motive := fun _ => R) (.fail 127) (newL s ([] ++ l) e true _) (growOk P e sz n) ∈ (_ : Dn)
          rw [hok]
          show Bool.rec (motive := fun _ => R) (.fail 100) (forceN (lenL ([] ++ l)) _) (allOne ([] ++ l)) ∈ (_ : Dn)
          rw [hone]
          show forceN (lenL ([] ++ l)) _ ∈ (_ : Dn)
          rw [forceN_eq]
          cases s
          unfold newK
          simp only [forceN_eq]
          exact ⟨rfl, rfl⟩
        obtain ⟨v0, s0, h12, hpc0, h13⟩ := appG_sound (D := Dn.mk ρ (.sl s.nx 0 n none) ⟨s.hp.set s.nx (.cells (lenL ([] ++ l)) (trOf ([] ++ l)) none e true), s.nx + 1, s.pc⟩) (ρ := ρ) hT hn1 hu hs hn hmem
        obtain ⟨rfl, rfl⟩ := h12
        have h14 := (h13 hg ha hb').swap (id := s.nx) (n := lenL ([] ++ l)) (c := trOf ([] ++ l)) (d := none) (T := e) (r := true) (c' := c) (d' := d) (by simp [Tr.get_set]) fun i hi => by
          rw [lenL_eq, List.nil_append] at hi
          unfold celA
          rw [show trOf ([] ++ l) = setL .nil 0 l from rfl, setL_get, if_pos (by omega), Nat.sub_zero, hget i (by omega), Nat.zero_add]
          obtain ⟨u, x, e1, _⟩ := hc.cell i (by omega)
          rw [e1]
          unfold celA at e1
          rw [e1]
        rw [show lenL ([] ++ l) = n * sz by rw [lenL_eq, List.nil_append, hol]] at h14
        simpa [Tr.set_set] using h14
      · exact appG_sound hT hn1 hu hs hn h5
    · exact appG_sound hT hn1 hu hs hn h4
  · exact appG_sound hT hn1 hu hs hn h4
theorem app_sound {Ts : Array TypeId} {s : St} {x y : AV} {κ : AV → St → R} (hD : appA P Ts s x y κ ∈ D) : ∃ v s', κ v s' ∈ D ∧ s'.pc = s.pc ∧ ∀ {w0 φ w a b}, Gm P ρ w0 φ s w → conc φ ρ x = some a → conc φ ρ y = some b → AppO P ρ w0 φ w s' Ts a b v := by
  obtain ⟨T, hT, h1⟩ := optK_inv hD
  obtain ⟨t, ht, h2⟩ := optK_inv h1
  split at h2
  · rename_i e sz
    obtain ⟨hu, hs⟩ := ixOf_sli ht
    obtain ⟨hn1, h3⟩ := brec_inv h2
    obtain ⟨n, hn, h4⟩ := lenOfK_inv h3
    exact appN_sound hT hn1 hu hs hn h4
  · cases h2
end

end Go.Proofs.YticednpolhnneaaGreat
