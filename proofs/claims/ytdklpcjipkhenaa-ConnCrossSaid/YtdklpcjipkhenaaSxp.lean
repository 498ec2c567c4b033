/-
  A run reckoned ahead: operations, regions.
-/
import Derived.Test.YtdklpcjipkhenaaSxo
set_option linter.unusedVariables false
set_option linter.unusedSimpArgs false
namespace Go.Proofs.Ytdklpcjipkhenaa
open Go

section
variable {P : Program} {ρ : Nat → Int} {w0 : World} {V : AV} {S : St}

/-- what is asked of the calls that are reckoned within -/
def CallSound (P : Program) (ρ : Nat → Int) (w0 : World) (call : CallT) : Prop := ∀ {f : FuncId} {args : List AV} {s : St} {κ : AV → St → R} {V : AV} {S : St}, call f args s κ = .done V S → ∃ v s', κ v s' = .done V S ∧ PcExt s.pc s'.pc ∧ ∀ {φ w xs}, Holds ρ s'.pc → concL φ ρ args = some xs → Gm P ρ w0 φ s w →
  (callFunc f xs.toArray).run P w = .ok (.enter f xs.toArray) w ∧ Calls P f xs.toArray w fun e w' => ∃ φ' x, e = .returned x ∧ φ <+: φ' ∧ conc φ' ρ v = some x ∧ Gm P ρ w0 φ' s' w'

/-- one operation, and what follows -/
def OpO (P : Program) (ρ : Nat → Int) (w0 : World) (φ : List Pl) (a : Act) (w : World) (s' : St) (op : Op) (v : AV) : Prop :=
  ∀ o : Oper, o.op = op → ∀ (next : Act → World → Prop) (Q : Exit → Act → World → Prop), (∀ φ' x w', φ <+: φ' → conc φ' ρ v = some x → Gm P ρ w0 φ' s' w' → next (a.put o.dst x) w') → o.wp P a w next Q
theorem EffO.opO {φ : List Pl} {a : Act} {w : World} {s' : St} {op : Op} {v : AV} (h : EffO P ρ w0 φ a w s' op v) : OpO P ρ w0 φ a w s' op v := by
  intro o ho next Q hn
  obtain ⟨φ', x, w', h1, h2, h3, h4⟩ := h
  unfold Oper.wp
  rcases h4 o ho with h | ⟨h, rfl⟩
  · rw [h]; exact hn φ' x w' h1 h2 h3
  · rw [h]; exact hn φ' undef w' h1 h2 h3
theorem quietK_sound {s : St} {t : Tr AV} {op : Op} {κ : AV → St → R} (hD : quietK P s t op κ = .done V S) : ∃ v s', κ v s' = .done V S ∧ PcExt s.pc s'.pc ∧ ∀ {φ sz a w}, Holds ρ s'.pc → GA φ ρ t sz a → Gm P ρ w0 φ s w → OpO P ρ w0 φ a w s' op v := by
  unfold quietK at hD
  split at hD
  rename_i hp nx pc
  obtain ⟨v, pc', h1, hx, h2⟩ := evQ_sound hD
  refine ⟨v, _, h1, hx, fun {φ sz a w} hρ hg hm => EffO.opO ?_⟩
  obtain ⟨x, h3, h4⟩ := h2 hρ hg hm.hp
  exact ⟨φ, x, w, List.prefix_refl _, h3, hm.pc pc', fun o ho => .inl (h4 o ho)⟩

theorem evOp_sound {call : CallT} (hc : CallSound P ρ w0 call) {s : St} {t : Tr AV} {op : Op} {κ : AV → St → R} (hD : evOp P call s t κ op = .done V S) : ∃ v s', κ v s' = .done V S ∧ PcExt s.pc s'.pc ∧ ∀ {φ sz a w}, Holds ρ s'.pc → GA φ ρ t sz a → Gm P ρ w0 φ s w → OpO P ρ w0 φ a w s' op v := by
  have pcx : ∀ {s s' : St}, s'.pc = s.pc → PcExt s.pc s'.pc := fun h => by rw [h]; exact .refl _
  cases op
  case alloc T =>
    obtain ⟨v, s', h1, hpc, h2⟩ := alloc_sound (P := P) (ρ := ρ) (w0 := w0) (show allocA P T s κ = .done V S from hD)
    exact ⟨v, s', h1, pcx hpc, fun {φ sz a w} _ hg hm => (h2 hm).opO⟩
  case box T x =>
    obtain ⟨u, h0, hu⟩ := opd_inv (show opd t x (fun v => boxA T v s κ) = .done V S from hD)
    obtain ⟨v, s', h1, hpc, h2⟩ := box_sound (P := P) (ρ := ρ) (w0 := w0) h0
    refine ⟨v, s', h1, pcx hpc, fun {φ sz a w} _ hg hm => ?_⟩
    obtain ⟨φ', y, w', r1, r2, r3, r4⟩ := h2 hm (hu hg)
    exact (EffO.of r1 r2 r3 r4 fun o ho => by unfold execOp; simp only [ho]).opO
  case buildSlice T n parts =>
    obtain ⟨v, s', h1, hpc, h2⟩ := buildS_sound (P := P) (ρ := ρ) (w0 := w0) (show buildS P T n t parts s κ = .done V S from hD)
    exact ⟨v, s', h1, pcx hpc, fun {φ sz a w} _ hg hm => (h2 hg hm).opO⟩
  case makeSlice T l c =>
    obtain ⟨u, h0, hu⟩ := opd_inv (show opd t l (fun l => opd t c fun c => makeS P T l c s κ) = .done V S from hD)
    obtain ⟨u', h0', hu'⟩ := opd_inv h0
    obtain ⟨v, s', h1, hpc, h2⟩ := makeS_sound (P := P) (ρ := ρ) (w0 := w0) h0'
    refine ⟨v, s', h1, pcx hpc, fun {φ sz a w} _ hg hm => ?_⟩
    obtain ⟨φ', y, w', r1, r2, r3, r4⟩ := h2 hm (hu hg) (hu' hg)
    exact (EffO.of r1 r2 r3 r4 fun o ho => by unfold execOp; simp only [ho]).opO
  case store T x y =>
    obtain ⟨u, h0, hu⟩ := opd_inv (show opd t x (fun a => opd t y fun v => storeA P T s a v (skipK κ)) = .done V S from hD)
    obtain ⟨u', h0', hu'⟩ := opd_inv h0
    obtain ⟨s', h1, hpc, h2⟩ := store_sound (P := P) (ρ := ρ) (w0 := w0) h0'
    refine ⟨undefA, s', h1, pcx hpc, fun {φ sz a w} _ hg hm => ?_⟩
    obtain ⟨w', r1, r2⟩ := h2 hm (hu hg) (hu' hg)
    exact (EffO.ofU (List.prefix_refl _) r2 r1 fun o ho => by unfold execOp; simp only [ho]).opO
  case makeMap T r =>
    have hD : (match r with | none => mapNew s κ | some _ => R.fail 154) = .done V S := hD
    split at hD
    · obtain ⟨v, s', h1, hpc, h2⟩ := mapNew_sound (P := P) (ρ := ρ) (w0 := w0) (T := T) hD
      exact ⟨v, s', h1, pcx hpc, fun {φ sz a w} _ hg hm => (h2 hm).opO⟩
    · cases hD
  case mapUpdate T m k x =>
    obtain ⟨u, h0, hu⟩ := opd_inv (show opd t m (fun m => opd t k fun k => opd t x fun v => mapSet P T s m k v (skipK κ)) = .done V S from hD)
    obtain ⟨u', h0', hu'⟩ := opd_inv h0
    obtain ⟨u2, h02, hu2⟩ := opd_inv h0'
    obtain ⟨s', h1, hpc, h2⟩ := mapSet_sound (P := P) (ρ := ρ) (w0 := w0) h02
    refine ⟨undefA, s', h1, pcx hpc, fun {φ sz a w} _ hg hm => ?_⟩
    obtain ⟨w', r1, r2⟩ := h2 hm (hu hg) (hu' hg) (hu2 hg)
    exact (EffO.ofU (List.prefix_refl _) r1 r2 fun o ho => by unfold execOp; simp only [ho]).opO
  case insert T m k x =>
    obtain ⟨u, h0, hu⟩ := opd_inv (show opd t m (fun m => opd t k fun k => opd t x fun v => mapSet P T s m k v (skipK κ)) = .done V S from hD)
    obtain ⟨u', h0', hu'⟩ := opd_inv h0
    obtain ⟨u2, h02, hu2⟩ := opd_inv h0'
    obtain ⟨s', h1, hpc, h2⟩ := mapSet_sound (P := P) (ρ := ρ) (w0 := w0) h02
    refine ⟨undefA, s', h1, pcx hpc, fun {φ sz a w} _ hg hm => ?_⟩
    obtain ⟨w', r1, r2⟩ := h2 hm (hu hg) (hu' hg) (hu2 hg)
    exact (EffO.ofU (List.prefix_refl _) r1 r2 fun o ho => by unfold execOp; simp only [ho]).opO
  case convert src dst x =>
    have hD : (match intOfT P dst with | some _ => quietK P s t (.convert src dst x) κ | none => opd t x fun x => convE P src dst x s κ) = .done V S := hD
    split at hD
    · exact quietK_sound hD
    · obtain ⟨u, h0, hu⟩ := opd_inv hD
      obtain ⟨v, s', h1, hpc, h2⟩ := convE_sound (P := P) (ρ := ρ) (w0 := w0) h0
      refine ⟨v, s', h1, pcx hpc, fun {φ sz a w} _ hg hm => ?_⟩
      obtain ⟨φ', y, w', r1, r2, r3, r4⟩ := h2 hm (hu hg)
      exact (EffO.of r1 r2 r3 r4 fun o ho => by unfold execOp; simp only [ho]).opO
  case call c =>
    have hD : (match c.callee with
      | .value f => opd t f fun f => opds t c.args.toList fun l => callV call s l κ f
      | .builtin b => blt2 P s t (.call c) c κ b
      | _ => R.fail 156) = .done V S := hD
    split at hD
    · rename_i f hf
      obtain ⟨u, h0, hu⟩ := opd_inv hD
      obtain ⟨vs, h1, _, hvs⟩ := opds_inv h0
      unfold callV at h1
      split at h1
      · rename_i g la lb
        obtain ⟨v, s', h2, hx, h3⟩ := hc h1
        refine ⟨v, s', h2, hx, fun {φ sz a w} hρ hg hm o ho next Q hn => ?_⟩
        have hfv := hu hg
        simp only [conc, Option.bind_eq_some_iff, Option.map_eq_some_iff] at hfv
        obtain ⟨xa, hxa, xb, hxb, hfe⟩ := hfv
        have hargs := hvs hg
        obtain ⟨q1, q2⟩ := h3 (w := w) hρ (concL_append.2 ⟨_, _, hxa, concL_append.2 ⟨_, _, hargs, hxb, rfl⟩, rfl⟩) hm
        have hexec : (execOp a.eval o).run P w = .ok (.enter g (xa ++ (c.args.toList.map a.eval ++ xb)).toArray) w := by
          unfold execOp
          simp only [ho, Sem.run_bind, resolve, hf, ← hfe, Deferred.ofValue, Sem.run_pure, Result.andThen_ok, invoke]
          rw [← q1]
          congr 2
          apply Array.toList_inj.1
          simp
        unfold Oper.wp
        rw [hexec, Oper.upon_enter]
        refine q2.mono fun e w' he => ?_
        obtain ⟨φ', x, rfl, r1, r2, r3⟩ := he
        exact hn φ' x w' r1 r2 r3
      · cases h1
    · rename_i b hb
      unfold blt2 at hD
      split at hD
      · obtain ⟨vs, h1, _, hvs⟩ := opds_inv hD
        split at h1
        · rename_i x y
          obtain ⟨v, s', h2, hpc, h3⟩ := app_sound (P := P) (ρ := ρ) (w0 := w0) h1
          refine ⟨v, s', h2, pcx hpc, fun {φ sz a w} _ hg hm => EffO.opO ?_⟩
          obtain ⟨xa, ys, e1, e2, e3⟩ := concL_cons.1 (hvs hg)
          obtain ⟨xb, ys', e4, e5, e6⟩ := concL_cons.1 e2
          simp only [concL, Option.some.injEq] at e5
          subst e5; subst e6
          obtain ⟨φ', z, w', r1, r2, r3, r4⟩ := h3 hm e1 e4
          refine ⟨φ', z, w', r1, r2, r3, fun o ho => .inl ?_⟩
          have hargs : c.args.map a.eval = #[xa, xb] := by apply Array.toList_inj.1; simp [e3]
          unfold execOp
          simp only [ho, Sem.run_bind, resolve, hb, Sem.run_pure, Result.andThen_ok, invoke, builtin, hargs, r4]
        · cases h1
      · obtain ⟨vs, h1, _, hvs⟩ := opds_inv hD
        split at h1
        · rename_i x y
          obtain ⟨T, hT, h2⟩ := optK_inv h1
          obtain ⟨v, s', h3, hpc, h4⟩ := copy_sound (P := P) (ρ := ρ) (w0 := w0) hT h2
          refine ⟨v, s', h3, pcx hpc, fun {φ sz a w} _ hg hm => EffO.opO ?_⟩
          obtain ⟨xa, ys, e1, e2, e3⟩ := concL_cons.1 (hvs hg)
          obtain ⟨xb, ys', e4, e5, e6⟩ := concL_cons.1 e2
          simp only [concL, Option.some.injEq] at e5
          subst e5; subst e6
          obtain ⟨z, w', r2, r3, r4⟩ := h4 hm e1 e4
          refine ⟨φ, z, w', List.prefix_refl _, r2, r3, fun o ho => .inl ?_⟩
          have hargs : c.args.map a.eval = #[xa, xb] := by apply Array.toList_inj.1; simp [e3]
          unfold execOp
          simp only [ho, Sem.run_bind, resolve, hb, Sem.run_pure, Result.andThen_ok, invoke, builtin, hargs, r4]
        · cases h1
      · exact quietK_sound hD
    · cases hD
  all_goals exact quietK_sound (show quietK P s t _ κ = .done V S from hD)

/-! temporaries -/
theorem putK_inv {sz : Nat} {t : Tr AV} {v : AV} {κ : Tr AV → R} {d : Option Tmp} (hD : putK sz t v κ d = .done V S) : ∃ t', κ t' = .done V S ∧ ∀ {φ a x}, GA φ ρ t sz a → conc φ ρ v = some x → GA φ ρ t' sz (a.put d x) := by
  unfold putK at hD
  split at hD
  · exact ⟨t, hD, fun hg _ => hg⟩
  · obtain ⟨h1, h2⟩ := brec_inv hD
    rw [natBlt] at h1
    exact ⟨_, h2, fun hg hx => hg.put (of_decide_eq_true h1) hx⟩
theorem wantB_inv {pc : PC} {want : Bool} {κ : Bool → PC → R} {v : Option AV} (hD : wantB pc want κ v = .done V S) : ∃ b pc', κ b pc' = .done V S ∧ PcExt pc pc' ∧ ∀ {φ x}, Holds ρ pc' → conc φ ρ (v.getD undefA) = some x → ((match x with | .bool c => some c | _ => none : Option Bool) == some want) = b := by
  unfold wantB at hD
  split at hD
  · refine ⟨_, pc, hD, .refl _, fun {φ x} _ hx => ?_⟩
    simp only [Option.getD_none, undefA, conc, concL, Option.map_some, Option.some.injEq] at hx
    subst hx; rfl
  · rename_i b
    obtain ⟨c, pc', h1, hx, hc⟩ := decK_inv hD
    refine ⟨_, pc', h1, hx, fun {φ x} hρ hx => ?_⟩
    simp only [Option.getD_some, conc, Option.some.injEq, hc ρ hρ] at hx
    subst hx
    cases c <;> cases want <;> rfl
  · cases hD
  · cases hD
  · rename_i v h1 h2 h3
    refine ⟨_, pc, hD, .refl _, fun {φ x} _ hx => ?_⟩
    simp only [Option.getD_some] at hx
    cases v <;> simp only [conc, Option.map_eq_some_iff, Option.bind_eq_some_iff, Option.some.injEq] at hx
    case int => subst hx; rfl
    case bool => exact absurd rfl (h1 _)
    case ptr => obtain ⟨p, _, rfl⟩ := hx; rfl
    case sl => obtain ⟨p, _, rfl⟩ := hx; rfl
    case emp i o0 o1 => obtain ⟨p, _, rfl⟩ := hx; by_cases hr : p.room o1 = 0 <;> simp [hr]
    case map => obtain ⟨p, _, rfl⟩ := hx; rfl
    case fn => obtain ⟨p, _, q, _, rfl⟩ := hx; rfl
    case iface => obtain ⟨p, _, rfl⟩ := hx; rfl
    case agg => obtain ⟨p, _, rfl⟩ := hx; rfl
    case tup => obtain ⟨p, _, rfl⟩ := hx; rfl
    case raw => exact absurd rfl (h2 _)
    case opq => exact absurd rfl (h3 _)
theorem yielded_eq {ops : Array Oper} {a : Act} {j d : Nat} (hd : (ops[j]?).bind (·.dst) = some d) : yielded ops a.tmps j = match a.tmps.getD d undef with | .bool c => some c | _ => none := by
  unfold yielded
  rw [hd]
  simp only [Option.bind_some]
  rcases Nat.lt_or_ge d a.tmps.size with h | h
  · rw [Array.getElem?_eq_getElem h]
    simp only [Array.getD, h, dite_true, Array.getInternal_eq_getElem]
    cases a.tmps[d] <;> rfl
  · rw [Array.getElem?_eq_none h]
    simp [Array.getD, Nat.not_lt.2 h, undef]
theorem wantG_inv {ops : Array Oper} {t : Tr AV} {pc : PC} {κ : Bool → PC → R} {g : Nat × Bool} (hD : wantG ops t pc κ g = .done V S) : ∃ b pc', κ b pc' = .done V S ∧ PcExt pc pc' ∧ ∀ {φ sz a}, Holds ρ pc' → GA φ ρ t sz a → (yielded ops a.tmps g.1 == some g.2) = b := by
  unfold wantG at hD
  split at hD
  · rename_i d hd
    obtain ⟨b, pc', h1, hx, h2⟩ := wantB_inv (ρ := ρ) hD
    exact ⟨b, pc', h1, hx, fun hρ hg => by rw [yielded_eq hd]; exact h2 hρ (hg.tm d)⟩
  · rename_i hd
    refine ⟨_, pc, hD, .refl _, fun _ _ => ?_⟩
    unfold yielded
    rw [hd]
    rfl
theorem wantK_inv {ops : Array Oper} {t : Tr AV} {pc : PC} {κ : Bool → PC → R} {o : Oper} (hD : wantK ops t pc κ o.guard = .done V S) : ∃ b pc', κ b pc' = .done V S ∧ PcExt pc pc' ∧ ∀ {φ sz a}, Holds ρ pc' → GA φ ρ t sz a → Region.wanted o (yielded ops a.tmps) = b := by
  unfold wantK at hD
  split at hD
  · rename_i hg
    exact ⟨_, pc, hD, .refl _, fun _ _ => by simp [Region.wanted, hg]⟩
  · rename_i g hg
    obtain ⟨b, pc', h1, hx, h2⟩ := wantG_inv (ρ := ρ) hD
    exact ⟨b, pc', h1, hx, fun hρ hga => by simp only [Region.wanted, hg]; exact h2 hρ hga⟩

/-! rows of operations -/
theorem evOps_sound {ops : Array Oper} {call : CallT} (hc : CallSound P ρ w0 call) {sz : Nat} : ∀ {l : List Oper} {s : St} {t : Tr AV} {κ : RK}, evOps P ops call sz l s t κ = .done V S → ∃ s' t', κ s' t' = .done V S ∧ PcExt s.pc s'.pc ∧ ∀ {φ a w}, Holds ρ s'.pc → GA φ ρ t sz a → Gm P ρ w0 φ s w →
    ∀ (Q : Exit → Act → World → Prop), (∀ φ' a' w', φ <+: φ' → GA φ' ρ t' sz a' → Gm P ρ w0 φ' s' w' → Q .normal a' w') → wpList P ops Q l a w
  | [], s, t, κ, hD => ⟨s, t, hD, .refl _, fun {φ a w} _ hg hm Q hQ => hQ φ a w (List.prefix_refl _) hg hm⟩
  | o :: l, s, t, κ, hD => by
    have hD : opG P ops call sz s t (fun s t => evOps P ops call sz l s t κ) o = .done V S := hD
    -- the operation itself
    have run : ∀ {s : St}, evOp P call s t (doneK sz t o.dst fun s t => evOps P ops call sz l s t κ) o.op = .done V S → ∃ s' t', κ s' t' = .done V S ∧ PcExt s.pc s'.pc ∧ ∀ {φ a w}, Holds ρ s'.pc → GA φ ρ t sz a → Gm P ρ w0 φ s w →
        ∀ (Q : Exit → Act → World → Prop), (∀ φ' a' w', φ <+: φ' → GA φ' ρ t' sz a' → Gm P ρ w0 φ' s' w' → Q .normal a' w') → o.wp P a w (wpList P ops Q l) Q := by
      intro s h
      obtain ⟨v, s1, h1, x1, h2⟩ := evOp_sound hc h
      obtain ⟨t1, h3, h4⟩ := putK_inv (ρ := ρ) (show putK sz t v ((fun s t => evOps P ops call sz l s t κ) s1) o.dst = .done V S from h1)
      obtain ⟨s2, t2, h5, x2, h6⟩ := evOps_sound hc h3
      refine ⟨s2, t2, h5, x1.trans x2, fun {φ a w} hρ hg hm Q hQ => ?_⟩
      exact h2 (hρ.of_ext x2) hg hm o rfl _ Q fun φ' x w' p1 c1 m1 => h6 hρ (h4 (hg.mono p1) c1) m1 Q fun φ2 a2 w2 p2 g2 m2 => hQ φ2 a2 w2 (p1.trans p2) g2 m2
    unfold opG at hD
    split at hD
    · rename_i hgd
      obtain ⟨s', t', h1, hx, h2⟩ := run hD
      refine ⟨s', t', h1, hx, fun {φ a w} hρ hg hm Q hQ => ?_⟩
      unfold wpList
      rw [if_pos (by simp [Region.wanted, hgd])]
      exact .inl (h2 hρ hg hm Q hQ)
    · rename_i g hgd
      obtain ⟨b, pc', h1, x1, hb⟩ := wantG_inv (ρ := ρ) hD
      unfold opW at h1
      rcases brec_cases h1 with ⟨rfl, h2⟩ | ⟨rfl, h2⟩
      · obtain ⟨s', t', h3, hx, h4⟩ := run h2
        refine ⟨s', t', h3, x1.trans hx, fun {φ a w} hρ hg hm Q hQ => ?_⟩
        unfold wpList
        rw [if_pos (by simp only [Region.wanted, hgd]; exact hb (hρ.of_ext hx) hg)]
        exact .inl (h4 hρ hg (hm.pc pc') Q hQ)
      · obtain ⟨t1, h3, h4⟩ := putK_inv (ρ := ρ) h2
        obtain ⟨s', t', h5, hx, h6⟩ := evOps_sound hc h3
        refine ⟨s', t', h5, x1.trans hx, fun {φ a w} hρ hg hm Q hQ => ?_⟩
        unfold wpList
        rw [if_neg (by simp only [Region.wanted, hgd]; rw [hb (hρ.of_ext hx) hg]; simp)]
        exact h6 hρ (h4 hg rfl) (hm.pc pc') Q hQ
end

end Go.Proofs.Ytdklpcjipkhenaa
