/-
  A run reckoned ahead: one that makes a thing, though it came earlier than it was reckoned.
-/
import Derived.Test.YticednpolhnneaaGreatSxq
set_option linter.unusedVariables false
set_option linter.unusedSimpArgs false
namespace Go.Proofs.YticednpolhnneaaGreat
open Go

section
variable {P : Program} {ρ : Nat → Int} {D : Dn}

/-! a block that stands there already -/
def Base.add (b : Base) (x : Nat × Obj) : Base := ⟨b.w0, x :: b.fr⟩
theorem Gm.drop {w0 : Base} {x : Nat × Obj} {φ : List Pl} {s : St} {w : World} (h : Gm P ρ (w0.add x) φ s w) : Gm P ρ w0 φ s w :=
  ⟨h.hp, h.len, h.ids, h.lo, h.kp, fun y hy => h.fr y (List.mem_cons_of_mem _ hy), h.fo⟩
theorem Gm.foreign {w0 : Base} {φ : List Pl} {s : St} {w : World} (h : Gm P ρ w0 φ s w) (o : Obj) : Gm P ρ (w0.add (w.heap.size, o)) φ s { w with heap := w.heap.push o } := by
  have hp := h.push o
  refine ⟨hp.hp, hp.len, hp.ids, hp.lo, hp.kp, fun y hy => ?_, h.fo⟩
  rcases List.mem_cons.1 hy with rfl | hy
  · exact ⟨by simp, by simp, fun id p hq => Nat.ne_of_lt (h.lo id p hq).2⟩
  · exact hp.fr y hy
theorem newL_adopt {s : St} {l : List AV} {T : TypeId} {κ : Nat → St → R} (hD : newL s l T false κ ∈ D) : ∃ s', κ s.nx s' ∈ D ∧ s'.pc = s.pc ∧ ∀ {w0 φ w xs B}, Gm P ρ (w0.add (B, .cells xs.toArray T)) φ s w → concL φ ρ l = some xs → w0.w0.heap.size ≤ B → (∀ x ∈ w0.fr, B ≠ x.1) →
    Gm P ρ w0 (φ ++ [⟨B, 0, l.length, 1⟩]) s' w ∧ (φ ++ [⟨B, 0, l.length, 1⟩])[s.nx]? = some (⟨B, 0, l.length, 1⟩ : Pl) := by
  obtain ⟨s', h1, h2, h3⟩ := newL_sound (P := P) (ρ := ρ) hD
  refine ⟨s', h1, h2, fun {w0 φ w xs B} hm hx hlo hne => ⟨?_, by rw [← hm.len]; simp⟩⟩
  have hl := concL_length hx
  obtain ⟨f1, f2, f3⟩ := hm.fr (B, .cells xs.toArray T) (List.mem_cons_self ..)
  exact h3 (p := ⟨B, 0, l.length, 1⟩) (arr := xs.toArray) (fz := (0, 0)) hm.drop hx hlo f1 (fun i o' q hi hl hq he => f3 i q hq he) f2 (by simp [hl]) (by simp) (fun _ => ⟨rfl, rfl, rfl, rfl⟩) (fun h => by cases h) (fun i _ h => by simp at h) (fun i _ => by simp) hne

theorem opd_at {t : Ts} {o : Operand} {κ : AV → R} (h : opd t o κ ∈ D) : ∃ v, κ v ∈ D ∧ ∀ {φ ρ} {a : Act}, (∀ d u, o = .tmp d → t.get d = some u → conc φ ρ u = some (a.tmps.getD d undef)) → conc φ ρ v = some (a.eval o) := by
  cases o with
  | tmp d =>
    obtain ⟨v, h1, h2⟩ := getK_inv (show t.getK d κ ∈ D from h)
    exact ⟨v, h2, fun hg => hg d v rfl h1⟩
  | const v => exact ⟨ofValue v, h, fun _ => conc_ofValue v⟩
  | global g => cases h
  | func f => exact ⟨_, h, fun _ => rfl⟩
theorem opdParts_at {t : Ts} : ∀ {l : List (Nat × Operand)} {κ : List (Nat × AV) → R}, opdParts t l κ ∈ D → ∃ ps, κ ps ∈ D ∧ ∀ {φ ρ} {a : Act}, (∀ d u, Operand.tmp d ∈ l.map (·.2) → t.get d = some u → conc φ ρ u = some (a.tmps.getD d undef)) → PartsOk φ ρ ps (l.map fun x => (x.1, a.eval x.2))
  | [], κ, hD => ⟨[], hD, fun _ => .nil⟩
  | (i, o) :: l, κ, hD => by
    obtain ⟨v, h1, hv⟩ := opd_at (show opd t o (fun v => opdParts t l fun r => κ ((i, v) :: r)) ∈ D from hD)
    obtain ⟨ps, h2, hps⟩ := opdParts_at h1
    refine ⟨_, h2, fun hg => .cons (hv fun d u ho hu => hg d u (by subst ho; simp) hu) (hps fun d u ho hu => hg d u (List.mem_cons_of_mem _ ho) hu)⟩

/-- one that makes a thing, and asks nothing of memory -/
def isFl (op : Op) : Bool := match op with
  | .alloc _ | .buildSlice _ _ _ => true
  | _ => false
/-- what it makes: cells as r says, at T; its value, by the block -/
def Makes (P : Program) (ev : Operand → Value) (o : Oper) (xs : List Value) (T : TypeId) (mk : Nat → Value) : Prop :=
  ∀ w1 : World, (execOp ev o).run P w1 = .ok (.value (mk w1.heap.size)) { w1 with heap := w1.heap.push (.cells xs.toArray T) }
def GAt (φ : List Pl) (ρ : Nat → Int) (t : Ts) (a : Act) (L : List Tmp) : Prop := ∀ d ∈ L, ∀ v, t.get d = some v → conc φ ρ v = some (a.tmps.getD d undef)
theorem GA.at {φ : List Pl} {t : Ts} {sz : Nat} {a : Act} (h : GA φ ρ t sz a) (L : List Tmp) : GAt φ ρ t a L := fun d _ v hv => h.tm d v hv
def opTs (op : Op) : List Tmp := op.operands.toList.filterMap fun | .tmp t => some t | _ => none
theorem mem_opTs {op : Op} {d : Tmp} (h : Operand.tmp d ∈ op.operands.toList) : d ∈ opTs op := List.mem_filterMap.2 ⟨.tmp d, h, rfl⟩

theorem fl_sound {call : CallT} {s : St} {t : Ts} {op : Op} {κ : AV → St → R} (hf : isFl op = true) (hD : evOp P call s t κ op ∈ D) : ∃ v s' r T mk, κ v s' ∈ D ∧ s'.pc = s.pc ∧
    (∀ {φ} {a : Act}, GAt φ ρ t a (opTs op) → ∃ xs, concL φ ρ r = some xs ∧ ∀ o : Oper, o.op = op → Makes P a.eval o xs T mk) ∧
    (∀ {w0 φ w xs B}, Gm P ρ (w0.add (B, .cells xs.toArray T)) φ s w → concL φ ρ r = some xs → w0.w0.heap.size ≤ B → (∀ x ∈ w0.fr, B ≠ x.1) → ∃ φ', φ <+: φ' ∧ conc φ' ρ v = some (mk B) ∧ Gm P ρ w0 φ' s' w) := by
  cases op <;> first | (cases hf; done) | skip
  case alloc T =>
    obtain ⟨z, hz, h1⟩ := optK_inv (show allocA P T s κ ∈ D from hD)
    obtain ⟨l, h2, hl⟩ := cellsK_inv h1
    obtain ⟨s', h3, hpc, h4⟩ := newL_adopt (P := P) (ρ := ρ) h2
    refine ⟨_, s', l, T, fun B => .pointer (some ⟨B, 0, none⟩), h3, hpc, fun {φ a} _ => ?_, fun {w0 φ w xs B} hm hx hlo hne => ?_⟩
    · obtain ⟨zv, hzr, hzc⟩ := zero_conc hz (w := default) (φ := φ) (ρ := ρ)
      refine ⟨_, hl hzc, fun o ho w1 => ?_⟩
      obtain ⟨zv', hzr', hzc'⟩ := zero_conc hz (w := w1) (φ := φ) (ρ := ρ)
      rw [hzc] at hzc'
      cases hzc'
      unfold execOp
      simp only [ho]
      simp [Instr.alloc, Sem.run_bind, hzr', newVar, run_newRow]
    · obtain ⟨r1, r2⟩ := h4 hm hx hlo hne
      exact ⟨_, pre_one _ _, by simp [conc, r2], r1⟩
  case buildSlice T n parts =>
    obtain ⟨d, hd, h1⟩ := optK_inv (show buildS P T n t parts s κ ∈ D from hD)
    split at h1
    · rename_i e sz
      obtain ⟨hb, h2⟩ := brec_inv h1
      simp only [Bool.and_eq_true, natBle, decide_eq_true_eq, natBeq, Bool.not_eq_true', decide_eq_false_iff_not] at hb
      obtain ⟨hle, hsz0⟩ := hb
      obtain ⟨z, hz, h3⟩ := optK_inv h2
      obtain ⟨zl, h4, hzl⟩ := cellsK_inv h3
      obtain ⟨ps, h5, hps⟩ := opdParts_at h4
      obtain ⟨hl, h6⟩ := brec_inv h5
      rw [natBeq, lenL_eq] at hl
      have hl := of_decide_eq_true hl
      obtain ⟨r, h7, hr⟩ := fillA_inv h6
      obtain ⟨s', h8, hpc, h9⟩ := newL_adopt (P := P) (ρ := ρ) h7
      refine ⟨_, s', r, e, fun B => .slice (some ⟨B, 0, none⟩) n n, h8, hpc, fun {φ a} hg => ?_, fun {w0 φ w xs B} hm hx hlo hne => ?_⟩
      · obtain ⟨hu, hs⟩ := ixOf_sli hd
        obtain ⟨zv, hzr0, hzc⟩ := zero_conc hz (w := default) (φ := φ) (ρ := ρ)
        have hzx := hzl hzc
        have hzs : zv.cells.size = sz := by rw [← Array.length_toList, concL_length hzx, hl]
        obtain ⟨ys, hy, hf⟩ := hr (by rw [repL_eq]; exact repG_conc hzx n) (hps (a := a) fun d u hm hu => hg d (mem_opTs (by simpa [Op.operands] using hm)) u hu)
        refine ⟨ys, hy, fun o ho w => ?_⟩
        obtain ⟨zv', hzr, hzc'⟩ := zero_conc hz (w := w) (φ := φ) (ρ := ρ)
        rw [hzc] at hzc'
        cases hzc'
        have hle' : ¬ (n * sz > 2 ^ 24) := by
          have : n * sz ≤ 16777216 := hle
          omega
        have key : Instr.fill (fun i => some (i * sz, sz)) (repG zv.cells.toList n).toArray (parts.map fun (i, x) => (i, a.eval x)).toList = some ys.toArray := by
          rw [Array.toList_map]; exact hf
        have goal : (Instr.buildSlice T n (parts.map fun (i, x) => (i, a.eval x))).run P w = .ok (.slice (some ⟨w.heap.size, 0, none⟩) n n) { w with heap := w.heap.push (.cells ys.toArray e) } := by
          generalize (parts.map fun (i, x) => (i, a.eval x)) = pv at key ⊢
          unfold Instr.buildSlice
          simp only [Sem.run_bind, run_underlying hu, Result.andThen_ok, run_size hs, hle', if_false]
          by_cases hn : n * sz = 0
          · have hn0 : n = 0 := by
              rcases Nat.mul_eq_zero.1 hn with h | h
              · exact h
              · exact absurd h hsz0
            subst hn0
            have e : ∀ f : Nat → Value, (Array.range 0).map f = (repG zv.cells.toList 0).toArray := fun f => by simp [repG]
            simp only [Nat.zero_mul, if_true, Sem.run_bind, Sem.run_pure, Result.andThen_ok, e, key, run_newRow]
          · have e := range_rep zv.cells n (.inl (by omega))
            rw [hzs] at e
            simp only [hn, if_false, Sem.run_bind, hzr, Result.andThen_ok, Sem.run_pure, hzs, e, key, run_newRow]
        unfold execOp
        simp only [ho, Sem.run_bind, goal]
        rfl
      · obtain ⟨r1, r2⟩ := h9 hm hx hlo hne
        exact ⟨_, pre_one _ _, by simp [conc, r2], r1⟩
    · cases h1

/-! behind it -/
/-- what was made stands, as someone else's -/
def Rel (ρ : Nat → Int) (b : Bool) (r : List AV) (T : TypeId) (mk : Nat → Value) (w0 w0' : Base) (φ : List Pl) (v : Value) : Prop :=
  (b = false ∧ v = undef ∧ w0' = w0) ∨ (b = true ∧ ∃ xs B, v = mk B ∧ concL φ ρ r = some xs ∧ w0' = w0.add (B, .cells xs.toArray T) ∧ w0.w0.heap.size ≤ B ∧ ∀ x ∈ w0.fr, B ≠ x.1)
theorem Rel.mono {b : Bool} {r : List AV} {T : TypeId} {mk : Nat → Value} {w0 w0' : Base} {φ φ' : List Pl} {v : Value} (h : Rel ρ b r T mk w0 w0' φ v) (hp : φ <+: φ') : Rel ρ b r T mk w0 w0' φ' v := by
  rcases h with h | ⟨h1, xs, B, h2, h3, h4⟩
  · exact .inl h
  · exact .inr ⟨h1, xs, B, h2, concL_mono hp _ _ h3, h4⟩
/-- what it does, told ahead -/
def FD (P : Program) (ρ : Nat → Int) (ops : Array Oper) (of : Oper) (t : Ts) (pc : PC) (b : Bool) (r : List AV) (T : TypeId) (mk : Nat → Value) : Prop :=
  ∀ (φ : List Pl) (a : Act), Holds ρ pc → GAt φ ρ t a (of.looksAt ops) → Region.wanted of (yielded ops a.tmps) = b ∧ (b = true → ∃ xs, concL φ ρ r = some xs ∧ Makes P a.eval of xs T mk)
theorem wantG_at {ops : Array Oper} {t : Ts} {pc : PC} {κ : Asm → Bool → PC → R} {g : Nat × Bool} (hD : wantG ops t pc κ g ∈ D) : ∃ m b pc', κ m b pc' ∈ D ∧ PcExt pc pc' ∧ ∀ {φ} {a : Act}, Holds ρ pc' → (∀ d v, (ops[g.1]?).bind (·.dst) = some d → t.get d = some v → conc φ ρ v = some (a.tmps.getD d undef)) → (yielded ops a.tmps g.1 == some g.2) = b := by
  unfold wantG at hD
  cases hd : (ops[g.1]?).bind (·.dst) with
  | some d =>
    rw [hd] at hD
    obtain ⟨v, hv, hD⟩ := getK_inv (show t.getK d (wantB pc g.2 fun b pc => κ (.yes g.1 g.2 d b) b pc) ∈ D from hD)
    obtain ⟨b, pc', h1, hx, h2⟩ := wantB_inv (ρ := ρ) hD
    exact ⟨_, b, pc', h1, hx, fun hρ hg => by rw [yielded_eq hd]; exact h2 hρ (hg d v rfl hv)⟩
  | none =>
    rw [hd] at hD
    refine ⟨_, _, pc, hD, .refl _, fun _ _ => ?_⟩
    unfold yielded
    rw [hd]
    rfl
theorem flOps_sound {ops : Array Oper} {call : CallT} {sz : Nat} {of : Oper} {df : Nat} {s : St} {t : Ts} {κ : RK} (hfl : isFl of.op = true) (hdst : of.dst = some df) (hD : evOps P ops call sz [of] .no s t κ ∈ D) :
    ∃ s' t', κ s' t' ∈ D ∧ PcExt s.pc s'.pc ∧ ∃ b r T mk, FD P ρ ops of t s'.pc b r T mk ∧
    ∀ {w0 w0' φ a w v}, Holds ρ s'.pc → GA φ ρ t sz a → Gm P ρ w0' φ s w → Rel ρ b r T mk w0 w0' φ v → ∃ φ', φ <+: φ' ∧ GA φ' ρ t' sz (a.put (some df) v) ∧ Gm P ρ w0 φ' s' w := by
  have hnd : isDef of.op = false := by
    revert hfl
    cases of.op <;> simp [isFl, isDef]
  have run : ∀ {s : St} {κ1 κ2 : RK}, (∀ s t, κ1 s t = κ s t) → opE P call sz of s t κ1 κ2 ∈ D → ∃ s' t', κ s' t' ∈ D ∧ s'.pc = s.pc ∧ ∃ r T mk,
      (∀ {φ} {a : Act}, GAt φ ρ t a (opTs of.op) → ∃ xs, concL φ ρ r = some xs ∧ Makes P a.eval of xs T mk) ∧
      ∀ {w0 φ a w xs B}, GA φ ρ t sz a → Gm P ρ (w0.add (B, .cells xs.toArray T)) φ s w → concL φ ρ r = some xs → w0.w0.heap.size ≤ B → (∀ x ∈ w0.fr, B ≠ x.1) → ∃ φ', φ <+: φ' ∧ GA φ' ρ t' sz (a.put (some df) (mk B)) ∧ Gm P ρ w0 φ' s' w := by
    intro s κ1 κ2 hκ h
    rcases brec_cases h with ⟨hd, _⟩ | ⟨_, h⟩
    · rw [hnd] at hd; cases hd
    obtain ⟨v, s', r, T, mk, h1, hpc, h2, h3⟩ := fl_sound (ρ := ρ) hfl h
    obtain ⟨t', h4, h5, _, _⟩ := putK_inv' (ρ := ρ) (show putK sz t v (κ1 s') of.dst ∈ D from h1)
    rw [hκ] at h4
    refine ⟨s', t', h4, hpc, r, T, mk, fun hg => ?_, fun {w0 φ a w xs B} hg hm hx hlo hne => ?_⟩
    · obtain ⟨xs, e1, e2⟩ := h2 hg
      exact ⟨xs, e1, e2 of rfl⟩
    · obtain ⟨φ', p1, c1, m1⟩ := h3 hm hx hlo hne
      refine ⟨φ', p1, ?_, m1⟩
      have := h5 (hg.mono p1) c1
      rw [hdst] at this
      exact this
  have opl : ∀ {φ : List Pl} {a : Act}, GAt φ ρ t a (of.looksAt ops) → GAt φ ρ t a (opTs of.op) := fun h d hd => h d (List.mem_append_left _ hd)
  have hD : opG P ops call sz .no s t (fun _ s t => κ s t) of ∈ D := hD
  unfold opG at hD
  cases hgd : of.guard with
  | none =>
    rw [hgd] at hD
    obtain ⟨s', t', h1, hpc, r, T, mk, h2, h3⟩ := run (s := s) (fun _ _ => rfl) (show opE P call sz of s t (fun s t => κ s t) (fun s t => κ s t) ∈ D from hD)
    refine ⟨s', t', h1, by rw [hpc]; exact .refl _, true, r, T, mk, fun φ a _ hg => ⟨by simp [Region.wanted, hgd], fun _ => h2 (opl hg)⟩, fun {w0 w0' φ a w v} _ hg hm hr => ?_⟩
    rcases hr with ⟨hb, _⟩ | ⟨_, xs, B, rfl, hx, rfl, hlo, hne⟩
    · cases hb
    · exact h3 hg hm hx hlo hne
  | some g =>
    rw [hgd] at hD
    obtain ⟨m, b, pc', h1, x1, hb⟩ := wantG_at (ρ := ρ) (show wantG ops t s.pc (opW P call sz of s t fun _ s t => κ s t) g ∈ D from hD)
    have hw : ∀ {φ : List Pl} {a : Act}, Holds ρ pc' → GAt φ ρ t a (of.looksAt ops) → Region.wanted of (yielded ops a.tmps) = b := fun hρ hg => by
      simp only [Region.wanted, hgd]
      exact hb hρ fun d v hd hv => hg d (List.mem_append_right _ (by rw [hgd]; simp only; rw [hd]; simp)) v hv
    unfold opW at h1
    have h1 : Bool.rec (motive := fun _ => R) (putK sz t undefA (fun t => κ ⟨s.hp, s.nx, pc'⟩ t) of.dst) (opE P call sz of ⟨s.hp, s.nx, pc'⟩ t (fun s t => κ s t) (fun s t => κ s t)) b ∈ D := by cases s; exact h1
    rcases brec_cases h1 with ⟨rfl, h2⟩ | ⟨rfl, h2⟩
    · obtain ⟨s', t', h3, hpc, r, T, mk, h4, h5⟩ := run (s := ⟨s.hp, s.nx, pc'⟩) (fun _ _ => rfl) h2
      refine ⟨s', t', h3, by rw [hpc]; exact x1, true, r, T, mk, fun φ a hρ hg => ⟨hw (by rw [hpc] at hρ; exact hρ) hg, fun _ => h4 (opl hg)⟩, fun {w0 w0' φ a w v} _ hg hm hr => ?_⟩
      rcases hr with ⟨hb, _⟩ | ⟨_, xs, B, rfl, hx, rfl, hlo, hne⟩
      · cases hb
      · exact h5 hg (hm.pc pc') hx hlo hne
    · obtain ⟨t', h3, h4, _, _⟩ := putK_inv' (ρ := ρ) h2
      refine ⟨_, t', h3, x1, false, [], 0, fun _ => undef, fun φ a hρ hg => ⟨hw hρ hg, fun h => by cases h⟩, fun {w0 w0' φ a w v} _ hg hm hr => ?_⟩
      rcases hr with ⟨_, rfl, rfl⟩ | ⟨hb, _⟩
      · refine ⟨φ, List.prefix_refl _, ?_, hm.pc pc'⟩
        have := h4 hg (x := undef) rfl
        rw [hdst] at this
        exact this
      · cases hb

/-! a plan's entry -/
def PanOk (Q : Exit → Act → World → Prop) : Prop := ∀ c a a' w, Q (.panic c) a w → Q (.panic c) a' w
def Entry (P : Program) (ops : Array Oper) (Q : Exit → Act → World → Prop) (b e k : List Nat) (R : Act → World → Prop) (a : Act) (w : World) : Prop :=
  wpQuiet P ops (Dr w) (fun a' => ∀ n, wpList P ops (Exit.then (fun a2 w2 => AgainAll P ops a2 w2 (pick ops k) ∧ R a2 w2) Q) (pick ops e) a' (w.drewN n)) (pick ops b) a
theorem entry_sound {ops : Array Oper} {call : CallT} (hc : CallSound P ρ call) {sz : Nat} {b e k : List Nat} {s : St} {t : Ts} {κ : RK} (hD : evPart P ops call sz (b, e, k) s t κ ∈ D) :
    ∃ s2 t2, κ s2 t2 ∈ D ∧ PcExt s.pc s2.pc ∧ (∀ x, (∀ o ∈ pick ops b ++ pick ops e, isDef o.op = false ∧ o.dst ≠ some x) → t2.get x = t.get x) ∧
    (∀ {w0 φ a w}, Holds ρ s2.pc → GA φ ρ t2 sz a → Gm P ρ w0 φ s2 w → AgainAll P ops a w (pick ops k)) ∧
    ∀ {w0 φ a w}, Holds ρ s2.pc → GA φ ρ t sz a → Gm P ρ w0 φ s w → ∀ (Q : Exit → Act → World → Prop) (R : Act → World → Prop), (∀ φ' a' w', φ <+: φ' → GA φ' ρ t2 sz a' → Gm P ρ w0 φ' s2 w' → R a' w') → Entry P ops Q b e k R a w := by
  unfold evPart at hD
  have hD : evQs P ops sz s.hp (pick ops b) .no t s.pc (fun t pc => evOps P ops call sz (pick ops e) .no ⟨s.hp, s.nx, pc⟩ t (agnK P ops k κ)) ∈ D := by cases s; exact hD
  obtain ⟨t1, pc1, h1, x1, k1, q1⟩ := evQs_sound (ρ := ρ) (m := .no) trivial hD
  obtain ⟨s2, t2, h2, x2, k2, q2⟩ := evOps_sound hc (m := .no) trivial h1
  unfold agnK at h2
  have h2 : again P ops s2.hp t2 (pick ops k) .no s2.pc (fun pc => κ ⟨s2.hp, s2.nx, pc⟩ t2) ∈ D := by cases s2; exact h2
  obtain ⟨pc3, h3, x3, q3⟩ := again_sound (ρ := ρ) (m := .no) trivial h2
  have ag : ∀ {w0 φ a w}, Holds ρ pc3 → GA φ ρ t2 sz a → Gm P ρ w0 φ s2 w → AgainAll P ops a w (pick ops k) := fun {w0 φ a w} hρ hg hm =>
    q3 hρ hg (fun w' => ∃ n, w' = w.drewN n) (fun w' ⟨n, hn⟩ => by rw [hn]; exact (hm.drewN n).hp) ⟨w, 0, rfl⟩
  refine ⟨⟨s2.hp, s2.nx, pc3⟩, t2, h3, x1.trans (x2.trans x3), fun x hx => ?_, fun {w0 φ a w} hρ hg hm => ag hρ hg (hm.pc s2.pc), fun {w0 φ a w} hρ hg hm Q R hR => ?_⟩
  · rw [k2 x (.inr fun o ho => (hx o (List.mem_append_right _ ho)).1) fun o ho => (hx o (List.mem_append_right _ ho)).2, k1 x (.inr fun o ho => (hx o (List.mem_append_left _ ho)).1) fun o ho => (hx o (List.mem_append_left _ ho)).2]
  · refine q1 (hρ.of_ext (x2.trans x3)) hg (Dr w) (fun w' ⟨n, hn⟩ => by rw [hn]; exact (hm.drewN n).hp) ⟨w, Dr.self w⟩ _ fun a1 hg1 n => ?_
    refine q2 (hρ.of_ext x3) hg1 ((hm.drewN n).pc pc1) _ fun φ2 a2 w2 p2 hg2 hm2 => ?_
    exact ⟨ag hρ hg2 hm2, hR φ2 a2 w2 p2 hg2 (hm2.pc pc3)⟩
theorem Entry.putR {ops : Array Oper} {Q : Exit → Act → World → Prop} {b e k : List Nat} {R R' : Act → World → Prop} {a : Act} {w : World} {d : Nat} {v : Value} (hQ : PanOk Q) (hR : ∀ a w, R a w → R' (a.put (some d) v) w)
    (hb : ∀ o ∈ pick ops b, ClearOf ops d o) (he : ∀ o ∈ pick ops e, ClearOf ops d o) (hk : ∀ o ∈ pick ops k, ClearOf ops d o) (h : Entry P ops Q b e k R a w) : Entry P ops Q b e k R' (a.put (some d) v) w :=
  wpQuiet_putR (fun a' h n => wpList_putR (Q := Exit.then (fun a2 w2 => AgainAll P ops a2 w2 (pick ops k) ∧ R a2 w2) Q) (Q' := Exit.then (fun a2 w2 => AgainAll P ops a2 w2 (pick ops k) ∧ R' a2 w2) Q)
    (fun a2 w2 h => ⟨AgainAll.putR hk (h : _ ∧ _).1, hR _ _ (h : _ ∧ _).2⟩) (fun c a a' w h => hQ c a a' w h) (fun ⟨a, w, h⟩ => ⟨a, w, h⟩) he (h n)) hb h
theorem Entry.imp {ops : Array Oper} {Q : Exit → Act → World → Prop} {b k : List Nat} {R : Act → World → Prop} {N : Act → Prop} {a : Act} {w : World} (hN : ∀ a', (∀ n, AgainAll P ops a' (w.drewN n) (pick ops k) ∧ R a' (w.drewN n)) → N a') (h : Entry P ops Q b [] k R a w) : wpQuiet P ops (Dr w) N (pick ops b) a := by
  unfold Entry at h
  generalize pick ops b = l at h
  revert a
  induction l with
  | nil => intro a h; exact hN a h
  | cons o l ih =>
    intro a h
    unfold wpQuiet at h ⊢
    split at h
    · rename_i hw
      rw [if_pos hw]
      obtain ⟨u, h1, h2⟩ := h
      exact ⟨u, h1, ih h2⟩
    · rename_i hw
      rw [if_neg hw]
      exact ih h

/-! the whole plan -/
/-- they have nothing to do with it -/
def apB (ops : Array Oper) (of : Oper) (df : Nat) (l : List Nat) : Bool := (pick ops l).all fun o => !(o.looksAt ops).contains df && (o.dst != some df) && !(isDef o.op) && (of.looksAt ops).all fun x => o.dst != some x
def flP (ops : Array Oper) (of : Oper) (df f : Nat) : Plan → Bool
  | (b, [], k) :: ([], [c], kc) :: rest => !(Nat.beq c f) && apB ops of df b && apB ops of df k && apB ops of df [c] && apB ops of df kc && flP ops of df f rest
  | (b, [i], k) :: rest => Nat.beq i f && apB ops of df b && rest.all fun x => x.2.1.all fun j => !(Nat.beq j f)
  | _ => false
def Fin (P : Program) (ρ : Nat → Int) (w0 : Base) (φ : List Pl) (t' : Ts) (sz : Nat) (s' : St) (Q : Exit → Act → World → Prop) : Prop := ∀ φ' a' w', φ <+: φ' → GA φ' ρ t' sz a' → Gm P ρ w0 φ' s' w' → Q .normal a' w'
theorem apB_spec {ops : Array Oper} (hsel : Region.noSelect ops = true) {of : Oper} {df : Nat} {l : List Nat} (h : apB ops of df l = true) : (∀ o ∈ pick ops l, ClearOf ops df o) ∧ ∀ o ∈ pick ops l, isDef o.op = false ∧ ∀ x ∈ of.looksAt ops, o.dst ≠ some x := by
  simp only [apB, List.all_eq_true, Bool.and_eq_true, Bool.not_eq_true', bne_iff_ne, ne_eq] at h
  refine ⟨fun o ho => ?_, fun o ho => ?_⟩
  · obtain ⟨⟨⟨h1, h2⟩, h3⟩, h4⟩ := h o ho
    obtain ⟨i, _, hi⟩ := List.mem_filterMap.1 ho
    exact ⟨by simpa using h1, h2, fun cs b => Region.noSelect_spec hsel i o cs b hi⟩
  · obtain ⟨⟨⟨h1, h2⟩, h3⟩, h4⟩ := h o ho
    exact ⟨h3, fun x hx => h4 x hx⟩
theorem dropF_none {f : Nat} {p : Plan} (h : (p.all fun x => x.2.1.all fun j => !(Nat.beq j f)) = true) : dropF f p = p := by
  unfold dropF
  conv => rhs; rw [← List.map_id p]
  refine List.map_congr_left fun x hx => ?_
  have := List.all_eq_true.1 h x hx
  obtain ⟨b, e, k⟩ := x
  simp only [id]
  congr 2
  exact List.filter_eq_self.2 fun j hj => List.all_eq_true.1 this j hj
theorem filt1 {f c : Nat} (h : Nat.beq c f = false) : ([c] : List Nat).filter (fun i => !(Nat.beq i f)) = [c] := by simp [h]
theorem filt0 (f : Nat) : ([f] : List Nat).filter (fun i => !(Nat.beq i f)) = [] := by simp [Nat.beq_refl]
theorem run_fl {ops : Array Oper} {Q : Exit → Act → World → Prop} {f df : Nat} {of : Oper} (hof : ops[f]? = some of) (hdf : of.dst = some df) {t : Ts} {pc : PC} {b : Bool} {r : List AV} {T : TypeId} {mk : Nat → Value} (hFD : FD P ρ ops of t pc b r T mk) {w0 : Base} {φ : List Pl} {sz : Nat} {a : Act} {w : World} {s : St}
    (hρ : Holds ρ pc) (hg : GA φ ρ t sz a) (hm : Gm P ρ w0 φ s w) {G : Act → World → Prop} (hG : ∀ w0' v w', Rel ρ b r T mk w0 w0' φ v → Gm P ρ w0' φ s w' → G (a.put (some df) v) w') : wpList P ops (Exit.then G Q) (pick ops [f]) a w := by
  have hpk : pick ops [f] = [of] := by unfold pick; rw [List.filterMap_cons_some hof]; rfl
  rw [hpk]
  obtain ⟨hw, hr⟩ := hFD φ a hρ (hg.at _)
  unfold wpList
  cases b with
  | false =>
    rw [if_neg (by rw [hw]; simp), hdf]
    exact hG w0 undef w (.inl ⟨rfl, rfl, rfl⟩) hm
  | true =>
    rw [if_pos hw]
    obtain ⟨xs, hx, hmk⟩ := hr rfl
    refine .inl ?_
    unfold Oper.wp
    rw [hmk w, Oper.upon_value, hdf]
    exact hG _ _ _ (.inr ⟨rfl, xs, _, rfl, hx, rfl, hm.kp.size, fun x hx => Nat.ne_of_gt (hm.fr x hx).1⟩) (hm.foreign _)
theorem evMixF_sound {ops : Array Oper} {call : CallT} (hc : CallSound P ρ call) {sz f df : Nat} {of : Oper} (hsel : Region.noSelect ops = true) (hof : ops[f]? = some of) (hdf : of.dst = some df) (hfl : isFl of.op = true) :
    ∀ (p : Plan) {s : St} {t : Ts} {κ : RK}, flP ops of df f p = true → evMix P ops call sz p s t κ ∈ D → ∃ s' t', κ s' t' ∈ D ∧ PcExt s.pc s'.pc ∧ ∃ b r T mk, FD P ρ ops of t s'.pc b r T mk ∧
      (∀ {w0 w0' φ a w v}, Holds ρ s'.pc → GA φ ρ t sz a → Gm P ρ w0' φ s w → Rel ρ b r T mk w0 w0' φ v → ∀ Q, PanOk Q → Fin P ρ w0 φ t' sz s' Q → mixWP P ops Q (dropF f p) (a.put (some df) v) w) ∧
      (∀ {w0 φ a w}, Holds ρ s'.pc → GA φ ρ t sz a → Gm P ρ w0 φ s w → ∀ Q, PanOk Q → Fin P ρ w0 φ t' sz s' Q → mixF P ops Q f p a w)
  | (b0, [], k0) :: ([], [c], kc) :: rest, s, t, κ, hB, hD => by
    simp only [flP, Bool.and_eq_true, Bool.not_eq_true'] at hB
    obtain ⟨⟨⟨⟨⟨hcf, hb⟩, hk⟩, hcc⟩, hkc⟩, hrest⟩ := hB
    obtain ⟨cb, db⟩ := apB_spec hsel hb
    obtain ⟨ck, _⟩ := apB_spec hsel hk
    obtain ⟨cc, dc⟩ := apB_spec hsel hcc
    obtain ⟨ckc, _⟩ := apB_spec hsel hkc
    have hD : evPart P ops call sz (b0, [], k0) s t (fun s t => evPart P ops call sz ([], [c], kc) s t (fun s t => evMix P ops call sz rest s t κ)) ∈ D := hD
    obtain ⟨s1, t1, h1, x1, k1, ag1, q1⟩ := entry_sound (ρ := ρ) hc hD
    obtain ⟨s2, t2, h2, x2, k2, ag2, q2⟩ := entry_sound (ρ := ρ) hc h1
    obtain ⟨s', t', h3, x3, b, r, T, mk, hFD, hE, hM⟩ := evMixF_sound hc hsel hof hdf hfl rest hrest h2
    have g2 : ∀ x ∈ of.looksAt ops, t2.get x = t1.get x := fun x hx => k2 x fun o ho => by
      rw [pick_nil, List.nil_append] at ho
      exact ⟨(dc o ho).1, (dc o ho).2 x hx⟩
    have g1 : ∀ x ∈ of.looksAt ops, t1.get x = t.get x := fun x hx => k1 x fun o ho => by
      rw [pick_nil, List.append_nil] at ho
      exact ⟨(db o ho).1, (db o ho).2 x hx⟩
    have FD1 : FD P ρ ops of t1 s'.pc b r T mk := fun φ a hρ hg => hFD φ a hρ fun d hd v hv => hg d hd v (by rw [← g2 d hd]; exact hv)
    have FD0 : FD P ρ ops of t s'.pc b r T mk := fun φ a hρ hg => FD1 φ a hρ fun d hd v hv => hg d hd v (by rw [← g1 d hd]; exact hv)
    -- behind the block, made already
    have E1 : ∀ {w0 w0' φ a w v}, Holds ρ s'.pc → GA φ ρ t1 sz a → Gm P ρ w0' φ s1 w → Rel ρ b r T mk w0 w0' φ v → ∀ Q, PanOk Q → Fin P ρ w0 φ t' sz s' Q → mixWP P ops Q (([], [c], kc) :: dropF f rest) (a.put (some df) v) w := by
      intro w0 w0' φ a w v hρ hg hm hr Q hQ hF
      exact Entry.putR (R := fun a' w' => mixWP P ops Q (dropF f rest) (a'.put (some df) v) w') hQ (fun _ _ h => h) (fun o ho => by cases ho) cc ckc
        (q2 (hρ.of_ext x3) hg hm Q _ fun φ' a' w' p' hg' hm' => hE hρ hg' hm' (hr.mono p') Q hQ fun φ2 a2 w2 p2 => hF φ2 a2 w2 (p'.trans p2))
    have hdp : dropF f ((b0, [], k0) :: ([], [c], kc) :: rest) = (b0, [], k0) :: ([], [c], kc) :: dropF f rest := by
      unfold dropF
      simp only [List.map_cons, List.filter_nil, filt1 hcf]
    have hdq : dropF f (([], [c], kc) :: rest) = ([], [c], kc) :: dropF f rest := by
      unfold dropF
      simp only [List.map_cons, filt1 hcf]
    refine ⟨s', t', h3, x1.trans (x2.trans x3), b, r, T, mk, FD0, fun {w0 w0' φ a w v} hρ hg hm hr Q hQ hF => ?_, fun {w0 φ a w} hρ hg hm Q hQ hF => ?_⟩
    · rw [hdp]
      exact Entry.putR (R := fun a' w' => mixWP P ops Q (([], [c], kc) :: dropF f rest) (a'.put (some df) v) w') hQ (fun _ _ h => h) cb (fun o ho => by cases ho) ck
        (q1 (hρ.of_ext (x2.trans x3)) hg hm Q _ fun φ' a' w' p' hg' hm' => E1 hρ hg' hm' (hr.mono p') Q hQ fun φ2 a2 w2 p2 => hF φ2 a2 w2 (p'.trans p2))
    · unfold mixF
      refine Entry.imp (Q := Q) (k := k0) (R := fun a' w' => wpList P ops (Exit.then (fun a2 w2 => AgainAll P ops a2 w2 (pick ops k0) ∧ mixWP P ops Q (dropF f (([], [c], kc) :: rest)) a2 w2) Q) (pick ops [f]) a' w'
        ∧ wpList P ops (Exit.then (fun a2 w2 => AgainAll P ops a2 w2 (pick ops kc) ∧ mixF P ops Q f rest a2 w2) Q) (pick ops [c]) a' w') (fun a' h n => (h n).2)
        (q1 (hρ.of_ext (x2.trans x3)) hg hm Q _ fun φ1 a1 w1 p1 hg1 hm1 => ⟨?_, ?_⟩)
      · refine run_fl hof hdf FD1 hρ hg1 hm1 fun w0' v w' hr hm' => ⟨AgainAll.putR ck (ag1 (hρ.of_ext (x2.trans x3)) hg1 hm'), ?_⟩
        rw [hdq]
        exact E1 hρ hg1 hm' hr Q hQ fun φ2 a2 w2 p2 => hF φ2 a2 w2 (p1.trans p2)
      · have := q2 (hρ.of_ext x3) hg1 hm1 Q (fun a2 w2 => mixF P ops Q f rest a2 w2) fun φ2 a2 w2 p2 hg2 hm2 => hM hρ hg2 hm2 Q hQ fun φ3 a3 w3 p3 => hF φ3 a3 w3 (p1.trans (p2.trans p3))
        exact (this : ∀ n, _) 0
  | (b0, [i], k0) :: rest, s, t, κ, hB, hD => by
    simp only [flP, Bool.and_eq_true] at hB
    obtain ⟨⟨hi, hb⟩, hrest⟩ := hB
    have hi : i = f := by rw [natBeq] at hi; exact of_decide_eq_true hi
    subst hi
    obtain ⟨cb, db⟩ := apB_spec hsel hb
    have hD : evPart P ops call sz (b0, [i], k0) s t (fun s t => evMix P ops call sz rest s t κ) ∈ D := hD
    unfold evPart at hD
    have hD : evQs P ops sz s.hp (pick ops b0) .no t s.pc (fun t pc => evOps P ops call sz (pick ops [i]) .no ⟨s.hp, s.nx, pc⟩ t (agnK P ops k0 (fun s t => evMix P ops call sz rest s t κ))) ∈ D := by cases s; exact hD
    obtain ⟨t1, pc1, h1, x1, k1, q1⟩ := evQs_sound (ρ := ρ) (m := .no) trivial hD
    have hpk : pick ops [i] = [of] := by unfold pick; rw [List.filterMap_cons_some hof]; rfl
    rw [hpk] at h1
    obtain ⟨s2, t2, h2, x2, b, r, T, mk, hFD, hA⟩ := flOps_sound (ρ := ρ) hfl hdf h1
    unfold agnK at h2
    have h2 : again P ops s2.hp t2 (pick ops k0) .no s2.pc (fun pc => evMix P ops call sz rest ⟨s2.hp, s2.nx, pc⟩ t2 κ) ∈ D := by cases s2; exact h2
    obtain ⟨pc3, h3, x3, q3⟩ := again_sound (ρ := ρ) (m := .no) trivial h2
    obtain ⟨s4, t4, h4, x4, q4⟩ := evMix_sound hc h3
    have x34 : PcExt s2.pc s4.pc := x3.trans x4
    have x24 : PcExt pc1 s4.pc := x2.trans x34
    have g1 : ∀ x ∈ of.looksAt ops, t1.get x = t.get x := fun x hx => k1 x (.inr fun o ho => (db o ho).1) fun o ho => (db o ho).2 x hx
    have FD1 : FD P ρ ops of t1 s4.pc b r T mk := fun φ a hρ hg => hFD φ a (hρ.of_ext x34) hg
    have FD0 : FD P ρ ops of t s4.pc b r T mk := fun φ a hρ hg => FD1 φ a hρ fun d hd v hv => hg d hd v (by rw [← g1 d hd]; exact hv)
    -- behind it, taken as its own
    have fin : ∀ {w0 w0' φ a w v}, Holds ρ s4.pc → GA φ ρ t1 sz a → Gm P ρ w0' φ ⟨s.hp, s.nx, pc1⟩ w → Rel ρ b r T mk w0 w0' φ v → ∀ Q, Fin P ρ w0 φ t4 sz s4 Q → AgainAll P ops (a.put (some df) v) w (pick ops k0) ∧ mixWP P ops Q rest (a.put (some df) v) w := by
      intro w0 w0' φ a w v hρ hg hm hr Q hF
      obtain ⟨φ2, p2, hg2, hm2⟩ := hA (hρ.of_ext x34) hg hm hr
      exact ⟨q3 (hρ.of_ext x4) hg2 (fun w' => ∃ n, w' = w.drewN n) (fun w' ⟨n, hn⟩ => by rw [hn]; exact (hm2.drewN n).hp) ⟨w, 0, rfl⟩, q4 hρ hg2 (hm2.pc pc3) Q fun φ3 a3 w3 p3 => hF φ3 a3 w3 (p2.trans p3)⟩
    have hdp : dropF i ((b0, [i], k0) :: rest) = (b0, [], k0) :: rest := by
      have : dropF i ((b0, [i], k0) :: rest) = (b0, ([i] : List Nat).filter (fun j => !(Nat.beq j i)), k0) :: dropF i rest := rfl
      rw [this, filt0, dropF_none hrest]
    refine ⟨s4, t4, h4, x1.trans x24, b, r, T, mk, FD0, fun {w0 w0' φ a w v} hρ hg hm hr Q hQ hF => ?_, fun {w0 φ a w} hρ hg hm Q hQ hF => ?_⟩
    · rw [hdp]
      show wpQuiet P ops (Dr w) _ (pick ops b0) (a.put (some df) v)
      refine wpQuiet_putR (N := fun a' => ∀ n, AgainAll P ops (a'.put (some df) v) (w.drewN n) (pick ops k0) ∧ mixWP P ops Q rest (a'.put (some df) v) (w.drewN n)) (fun a' h n => h n) cb ?_
      refine q1 (hρ.of_ext x24) hg (Dr w) (fun w' ⟨n, hn⟩ => by rw [hn]; exact (hm.drewN n).hp) ⟨w, Dr.self w⟩ _ fun a1 hg1 n => ?_
      exact fin hρ hg1 ((hm.drewN n).pc pc1) hr Q hF
    · show mixF P ops Q i ((b0, [i], k0) :: rest) a w
      have : mixWP P ops Q ((b0, [i], k0) :: rest) a w := by
        show wpQuiet P ops (Dr w) _ (pick ops b0) a
        refine q1 (hρ.of_ext x24) hg (Dr w) (fun w' ⟨n, hn⟩ => by rw [hn]; exact (hm.drewN n).hp) ⟨w, Dr.self w⟩ _ fun a1 hg1 n => ?_
        exact run_fl hof hdf FD1 hρ hg1 ((hm.drewN n).pc pc1) fun w0' v w' hr hm' => fin hρ hg1 hm' hr Q hF
      unfold mixF
      exact this
  | [], _, _, _, hB, _ => by simp [flP] at hB
  | [(b, [], k)], _, _, _, hB, _ => by simp [flP] at hB
  | (b, [], k) :: (x :: xs, e, kc) :: rest, _, _, _, hB, _ => by simp [flP] at hB
  | (b, [], k) :: ([], [], kc) :: rest, _, _, _, hB, _ => by simp [flP] at hB
  | (b, [], k) :: ([], c :: d :: e, kc) :: rest, _, _, _, hB, _ => by simp [flP] at hB
  | (b, i :: j :: e, k) :: rest, _, _, _, hB, _ => by simp [flP] at hB
/-- the first block may lay what it asks for -/
def flP1 (ops : Array Oper) (of : Oper) (df f : Nat) : Plan → Bool
  | (b, [], k) :: ([], [c], kc) :: rest => !(Nat.beq c f) && apB ops of df k && apB ops of df [c] && apB ops of df kc && flP ops of df f rest
  | _ => false
theorem evMixF_top {ops : Array Oper} {call : CallT} (hc : CallSound P ρ call) {sz f df : Nat} {of : Oper} (hsel : Region.noSelect ops = true) (hof : ops[f]? = some of) (hdf : of.dst = some df) (hfl : isFl of.op = true) :
    ∀ (p : Plan) {s : St} {t : Ts} {κ : RK}, flP1 ops of df f p = true → evMix P ops call sz p s t κ ∈ D → ∃ s' t', κ s' t' ∈ D ∧ PcExt s.pc s'.pc ∧
      (∀ {w0 φ a w}, Holds ρ s'.pc → GA φ ρ t sz a → Gm P ρ w0 φ s w → ∀ Q, PanOk Q → Fin P ρ w0 φ t' sz s' Q → mixF P ops Q f p a w)
  | (b0, [], k0) :: ([], [c], kc) :: rest, s, t, κ, hB, hD => by
    simp only [flP1, Bool.and_eq_true, Bool.not_eq_true'] at hB
    obtain ⟨⟨⟨⟨hcf, hk⟩, hcc⟩, hkc⟩, hrest⟩ := hB
    obtain ⟨ck, _⟩ := apB_spec hsel hk
    obtain ⟨cc, dc⟩ := apB_spec hsel hcc
    obtain ⟨ckc, _⟩ := apB_spec hsel hkc
    have hD : evPart P ops call sz (b0, [], k0) s t (fun s t => evPart P ops call sz ([], [c], kc) s t (fun s t => evMix P ops call sz rest s t κ)) ∈ D := hD
    obtain ⟨s1, t1, h1, x1, k1, ag1, q1⟩ := entry_sound (ρ := ρ) hc hD
    obtain ⟨s2, t2, h2, x2, k2, ag2, q2⟩ := entry_sound (ρ := ρ) hc h1
    obtain ⟨s', t', h3, x3, b, r, T, mk, hFD, hE, hM⟩ := evMixF_sound hc hsel hof hdf hfl rest hrest h2
    have g2 : ∀ x ∈ of.looksAt ops, t2.get x = t1.get x := fun x hx => k2 x fun o ho => by
      rw [pick_nil, List.nil_append] at ho
      exact ⟨(dc o ho).1, (dc o ho).2 x hx⟩
    have FD1 : FD P ρ ops of t1 s'.pc b r T mk := fun φ a hρ hg => hFD φ a hρ fun d hd v hv => hg d hd v (by rw [← g2 d hd]; exact hv)
    have E1 : ∀ {w0 w0' φ a w v}, Holds ρ s'.pc → GA φ ρ t1 sz a → Gm P ρ w0' φ s1 w → Rel ρ b r T mk w0 w0' φ v → ∀ Q, PanOk Q → Fin P ρ w0 φ t' sz s' Q → mixWP P ops Q (([], [c], kc) :: dropF f rest) (a.put (some df) v) w := by
      intro w0 w0' φ a w v hρ hg hm hr Q hQ hF
      exact Entry.putR (R := fun a' w' => mixWP P ops Q (dropF f rest) (a'.put (some df) v) w') hQ (fun _ _ h => h) (fun o ho => by cases ho) cc ckc
        (q2 (hρ.of_ext x3) hg hm Q _ fun φ' a' w' p' hg' hm' => hE hρ hg' hm' (hr.mono p') Q hQ fun φ2 a2 w2 p2 => hF φ2 a2 w2 (p'.trans p2))
    have hdq : dropF f (([], [c], kc) :: rest) = ([], [c], kc) :: dropF f rest := by
      unfold dropF
      simp only [List.map_cons, filt1 hcf]
    refine ⟨s', t', h3, x1.trans (x2.trans x3), fun {w0 φ a w} hρ hg hm Q hQ hF => ?_⟩
    unfold mixF
    refine Entry.imp (Q := Q) (k := k0) (R := fun a' w' => wpList P ops (Exit.then (fun a2 w2 => AgainAll P ops a2 w2 (pick ops k0) ∧ mixWP P ops Q (dropF f (([], [c], kc) :: rest)) a2 w2) Q) (pick ops [f]) a' w'
      ∧ wpList P ops (Exit.then (fun a2 w2 => AgainAll P ops a2 w2 (pick ops kc) ∧ mixF P ops Q f rest a2 w2) Q) (pick ops [c]) a' w') (fun a' h n => (h n).2)
      (q1 (hρ.of_ext (x2.trans x3)) hg hm Q _ fun φ1 a1 w1 p1 hg1 hm1 => ⟨?_, ?_⟩)
    · refine run_fl hof hdf FD1 hρ hg1 hm1 fun w0' v w' hr hm' => ⟨AgainAll.putR ck (ag1 (hρ.of_ext (x2.trans x3)) hg1 hm'), ?_⟩
      rw [hdq]
      exact E1 hρ hg1 hm' hr Q hQ fun φ2 a2 w2 p2 => hF φ2 a2 w2 (p1.trans p2)
    · have := q2 (hρ.of_ext x3) hg1 hm1 Q (fun a2 w2 => mixF P ops Q f rest a2 w2) fun φ2 a2 w2 p2 hg2 hm2 => hM hρ hg2 hm2 Q hQ fun φ3 a3 w3 p3 => hF φ3 a3 w3 (p1.trans (p2.trans p3))
      exact (this : ∀ n, _) 0
  | [], _, _, _, hB, _ => by simp [flP1] at hB
  | [(b, [], k)], _, _, _, hB, _ => by simp [flP1] at hB
  | (b, [], k) :: (x :: xs, e, kc) :: rest, _, _, _, hB, _ => by simp [flP1] at hB
  | (b, [], k) :: ([], [], kc) :: rest, _, _, _, hB, _ => by simp [flP1] at hB
  | (b, [], k) :: ([], c :: d :: e, kc) :: rest, _, _, _, hB, _ => by simp [flP1] at hB
  | (b, i :: e, k) :: rest, _, _, _, hB, _ => by simp [flP1] at hB
/-- the check of a plan: with such a one, or without -/
def flOk (ops : Array Oper) (p : Plan) : Bool := match ops[flOf p]? with
  | some of => match of.dst with
    | some df => isFl of.op && (flP1 ops of df (flOf p) p && (mixFB ops p && decide (planN p = ops.size)))
    | none => false
  | none => false
end

end Go.Proofs.YticednpolhnneaaGreat
