/-
  A run reckoned ahead: operations, regions.
-/
import Derived.Test.YticednpolhnneaaGreatSxo
import Derived.Test.YticednpolhnneaaGreatSrr
set_option linter.unusedVariables false
set_option linter.unusedSimpArgs false
namespace Go.Proofs.YticednpolhnneaaGreat
open Go

section
variable {P : Program} {ρ : Nat → Int} {w0 : Base} {D : Dn}

/-- a call that goes into a body, or that answers at once -/
def CallsOr (P : Program) (f : FuncId) (xs : Array Value) (w : World) (Q : Value → World → Prop) : Prop :=
  ((callFunc f xs).run P w = .ok (.enter f xs) w ∧ Calls P f xs w fun e w' => ∃ x, e = .returned x ∧ Q x w') ∨ ∃ x w', (callFunc f xs).run P w = .ok (.value x) w' ∧ Q x w'
/-- what is asked of the calls that are reckoned within -/
def CallSound (P : Program) (ρ : Nat → Int) (call : CallT) : Prop := ∀ {f : FuncId} {args : List AV} {s : St} {κ : AV → St → R} {D : Dn}, call f args s κ ∈ D → ∃ v s', κ v s' ∈ D ∧ PcExt s.pc s'.pc ∧ ∀ {w0 φ w xs}, Holds ρ s'.pc → concL φ ρ args = some xs → Gm P ρ w0 φ s w →
  CallsOr P f xs.toArray w fun x w' => ∃ φ', φ <+: φ' ∧ conc φ' ρ v = some x ∧ Gm P ρ w0 φ' s' w'

/-- one operation, and what follows -/
def OpO (P : Program) (ρ : Nat → Int) (w0 : Base) (φ : List Pl) (a : Act) (w : World) (s' : St) (op : Op) (v : AV) : Prop :=
  ∀ o : Oper, o.op = op → ∀ (next : Act → World → Prop) (Q : Exit → Act → World → Prop), (∀ φ' x w', φ <+: φ' → conc φ' ρ v = some x → Gm P ρ w0 φ' s' w' → next (a.put o.dst x) w') → o.wp P a w next Q
theorem EffO.opO {φ : List Pl} {a : Act} {w : World} {s' : St} {op : Op} {v : AV} (h : EffO P ρ w0 φ a w s' op v) : OpO P ρ w0 φ a w s' op v := by
  intro o ho next Q hn
  obtain ⟨φ', x, w', h1, h2, h3, h4⟩ := h
  unfold Oper.wp
  rcases h4 o ho with h | ⟨h, rfl⟩
  · rw [h]; exact hn φ' x w' h1 h2 h3
  · rw [h]; exact hn φ' undef w' h1 h2 h3
theorem quietK_sound {s : St} {t : Ts} {op : Op} {κ : AV → St → R} (hD : quietK P s t op κ ∈ D) : ∃ v s', κ v s' ∈ D ∧ PcExt s.pc s'.pc ∧ ∀ {w0 φ sz a w}, Holds ρ s'.pc → GA φ ρ t sz a → Gm P ρ w0 φ s w → OpO P ρ w0 φ a w s' op v := by
  unfold quietK at hD
  obtain ⟨hp, nx, pc⟩ := s
  obtain ⟨v, pc', h1, hx, h2⟩ := evQ_sound (show evQ P hp t pc op (fun v pc => κ v ⟨hp, nx, pc⟩) ∈ D from hD)
  refine ⟨v, _, h1, hx, fun {w0 φ sz a w} hρ hg hm => EffO.opO ?_⟩
  obtain ⟨x, h3, h4⟩ := h2 hρ hg hm.hp
  exact ⟨φ, x, w, List.prefix_refl _, h3, hm.pc pc', fun o ho => .inl (h4 o ho)⟩

theorem fnV_inv {v : AV} {κ : FuncId → List AV → List AV → R} (hD : fnV v κ ∈ D) : ∃ g a b, v = .fn (.func g) a b ∧ κ g a b ∈ D := by
  cases v
  case fn f a b =>
    cases f with
    | func g => exact ⟨g, a, b, rfl, hD⟩
    | _ => cases hD
  all_goals cases hD
theorem ifaceV_inv {v : AV} {κ : TypeId → AV → R} (hD : ifaceV v κ ∈ D) : ∃ t y, v = .iface t y ∧ κ t y ∈ D := by
  unfold ifaceV at hD
  split at hD
  · exact ⟨_, _, rfl, hD⟩
  · cases hD
theorem meth_run {t : TypeId} {name : String} {f : FuncId} (h : methA P t name = some f) {v : Value} {args : Array Value} {w : World} :
    (invoke (.fn (.method name) #[]) (#[.iface t v] ++ args)).run P w = (callFunc f (#[v] ++ args)).run P w := by
  unfold methA at h
  split at h
  · rename_i i hi
    split at h
    · rename_i m hm
      split at h
      · rename_i hp
        split at h
        · rename_i g pr hfn
          have key : ∀ {e : TypeDesc}, P.underlying t = some e → (match e with | .pointer _ => pr = true | _ => pr = false) → (method (P.types.size + Made.depth) t v name).run P w = .ok (g, v) w := by
            intro e hu he
            have h0 : 0 < Made.depth := by decide
            have hfuel : ∃ n, P.types.size + Made.depth = n + 1 := ⟨P.types.size + Made.depth - 1, by omega⟩
            obtain ⟨n, hn⟩ := hfuel
            rw [hn, method]
            simp only [Sem.run_bind, run_typeInfo w hi, Result.andThen_ok, hm, hp, follow, hfn]
            cases e <;> simp only at he <;> subst he <;> simp [receiverAt, Sem.run_bind, run_underlying hu, Place.get]
          have fin : g = f → (method (P.types.size + Made.depth) t v name).run P w = .ok (g, v) w → (invoke (.fn (.method name) #[]) (#[.iface t v] ++ args)).run P w = (callFunc f (#[v] ++ args)).run P w := by
            rintro rfl hk
            have h0 : (#[Value.iface t v] ++ args)[0]? = some (.iface t v) := by rw [Array.getElem?_append_left (by simp)]; rfl
            have h1 : (#[Value.iface t v] ++ args).extract 1 (#[Value.iface t v] ++ args).size = args := by
              apply Array.toList_inj.1
              simp
            simp only [invoke, h0, h1, callMethod, Sem.run_bind, run_program, Result.andThen_ok, hk]
          split at h
          · rename_i e hu
            cases pr with
            | false => cases h
            | true => exact fin (Option.some.inj h) (key hu rfl)
          · rename_i d hne hu
            cases pr with
            | true => cases h
            | false => exact fin (Option.some.inj h) (key hu (by cases d <;> first | rfl | exact (hne _ rfl).elim))
          · cases h
        · cases h
      · cases h
    · cases h
  · cases h
theorem fieldPlace_ok {T : TypeId} {f o : Nat} (ho : fieldPlaceA P T f = some o) : ∃ fs fd, P.underlying T = some (.struct fs) ∧ fs[f]? = some fd ∧ ∀ (b off : Nat) (w : World), (fieldPlace ⟨b, off, none⟩ fd).run P w = .ok ⟨b, off + o, none⟩ w := by
  unfold fieldPlaceA at ho
  split at ho
  · rename_i o' t hf
    obtain ⟨fs, fd, hu, hfd, he⟩ := fieldA_und hf
    cases he
    split at ho
    · rename_i n hn
      have hn0 : n ≠ 0 ∧ fd.offset = o := by
        rw [natBeq] at ho
        by_cases e : n = 0
        · simp [e] at ho
        · simp [e] at ho; exact ⟨e, ho⟩
      obtain ⟨hn0, rfl⟩ := hn0
      refine ⟨fs, fd, hu, hfd, fun b off w => ?_⟩
      simp [fieldPlace, Sem.run_bind, run_size hn, hn0, add_plain]
    · cases ho
  · cases ho
theorem methB_run {t : TypeId} {name : String} {b : FuncId × TypeId × Nat} (h : methB P t name = some b) {o : Nat} (ho : fieldPlaceA P b.2.1 b.2.2 = some o) {blk off : Nat} {args : Array Value} {w : World} :
    (invoke (.fn (.method name) #[]) (#[.iface t (.pointer (some ⟨blk, off, none⟩))] ++ args)).run P w = (callFunc b.1 (#[.pointer (some ⟨blk, off + o, none⟩)] ++ args)).run P w := by
  unfold methB at h
  split at h
  · rename_i i hi
    split at h
    · rename_i m hm
      split at h
      · rename_i st hp
        split at h
        · rename_i g hfn
          split at h
          · rename_i x ft hff
            split at h
            · cases h
            · rename_i d hne hu
              cases hd : st.deref with
              | false => rw [hd] at h; cases h
              | true =>
                rw [hd] at h
                cases Option.some.inj h
                obtain ⟨fs, fd, hus, hfd, hpl⟩ := fieldPlace_ok ho
                obtain ⟨fs', fd', hus', hfd', he⟩ := fieldA_und hff
                rw [hus] at hus'; cases hus'
                rw [hfd] at hfd'; cases hfd'
                cases he
                have h0 : 0 < Made.depth := by decide
                have hfuel : ∃ n, P.types.size + Made.depth = n + 1 := ⟨P.types.size + Made.depth - 1, by omega⟩
                obtain ⟨n, hn⟩ := hfuel
                have hmeth : (method (P.types.size + Made.depth) t (.pointer (some ⟨blk, off, none⟩)) name).run P w = .ok (g, .pointer (some ⟨blk, off + o, none⟩)) w := by
                  rw [hn, method]
                  simp only [Sem.run_bind, run_typeInfo w hi, Result.andThen_ok, hm, hp, follow, hfn, run_underlying hus, hfd, hd, if_true, Place.get, asAddr, Sem.run_pure, hpl]
                  cases d <;> first | exact (hne _ rfl).elim | simp [receiverAt, Sem.run_bind, run_underlying hu]
                have k0 : (#[Value.iface t (.pointer (some ⟨blk, off, none⟩))] ++ args)[0]? = some (.iface t (.pointer (some ⟨blk, off, none⟩))) := by rw [Array.getElem?_append_left (by simp)]; rfl
                have k1 : (#[Value.iface t (.pointer (some ⟨blk, off, none⟩))] ++ args).extract 1 (#[Value.iface t (.pointer (some ⟨blk, off, none⟩))] ++ args).size = args := by
                  apply Array.toList_inj.1
                  simp
                simp only [invoke, k0, k1, callMethod, Sem.run_bind, run_program, Result.andThen_ok, hmeth]
            · cases h
          · cases h
        · cases h
      · cases h
    · cases h
  · cases h
theorem CallsOr.upon {f : FuncId} {xs : Array Value} {w : World} {φ : List Pl} {v : AV} {s' : St} (q : CallsOr P f xs w fun x w' => ∃ φ', φ <+: φ' ∧ conc φ' ρ v = some x ∧ Gm P ρ w0 φ' s' w') {o : Oper} {a : Act} {m : Sem Next} (hm : m.run P w = (callFunc f xs).run P w) {next : Act → World → Prop} {Q : Exit → Act → World → Prop}
    (hn : ∀ φ' x w', φ <+: φ' → conc φ' ρ v = some x → Gm P ρ w0 φ' s' w' → next (a.put o.dst x) w') : o.upon P a next Q (m.run P w) := by
  rw [hm]
  rcases q with ⟨q1, q2⟩ | ⟨x, w', q1, φ', r1, r2, r3⟩
  · rw [q1, Oper.upon_enter]
    refine q2.mono fun e w' he => ?_
    obtain ⟨x, rfl, φ', r1, r2, r3⟩ := he
    exact hn φ' x w' r1 r2 r3
  · rw [q1]
    exact hn φ' x w' r1 r2 r3
theorem evOp_sound {call : CallT} (hc : CallSound P ρ call) {s : St} {t : Ts} {op : Op} {κ : AV → St → R} (hD : evOp P call s t κ op ∈ D) : ∃ v s', κ v s' ∈ D ∧ PcExt s.pc s'.pc ∧ ∀ {w0 φ sz a w}, Holds ρ s'.pc → GA φ ρ t sz a → Gm P ρ w0 φ s w → OpO P ρ w0 φ a w s' op v := by
  have pcx : ∀ {s s' : St}, s'.pc = s.pc → PcExt s.pc s'.pc := fun h => by rw [h]; exact .refl _
  cases op
  case alloc T =>
    obtain ⟨v, s', h1, hpc, h2⟩ := alloc_sound (P := P) (ρ := ρ) (show allocA P T s κ ∈ D from hD)
    exact ⟨v, s', h1, pcx hpc, fun {w0 φ sz a w} _ hg hm => (h2 hm).opO⟩
  case box T x =>
    obtain ⟨u, h0, hu⟩ := opd_inv (show opd t x (fun v => boxA T v s κ) ∈ D from hD)
    obtain ⟨v, s', h1, hpc, h2⟩ := box_sound (P := P) (ρ := ρ) h0
    refine ⟨v, s', h1, pcx hpc, fun {w0 φ sz a w} _ hg hm => ?_⟩
    obtain ⟨φ', y, w', r1, r2, r3, r4⟩ := h2 hm (hu hg)
    exact (EffO.of r1 r2 r3 r4 fun o ho => by unfold execOp; simp only [ho]).opO
  case buildSlice T n parts =>
    obtain ⟨v, s', h1, hpc, h2⟩ := buildS_sound (P := P) (ρ := ρ) (show buildS P T n t parts s κ ∈ D from hD)
    exact ⟨v, s', h1, pcx hpc, fun {w0 φ sz a w} _ hg hm => (h2 hg hm).opO⟩
  case makeSlice T l c =>
    obtain ⟨u, h0, hu⟩ := opd_inv (show opd t l (fun l => opd t c fun c => makeX P T l c s κ) ∈ D from hD)
    obtain ⟨u', h0', hu'⟩ := opd_inv h0
    obtain ⟨v, s', h1, hpc, h2⟩ := makeX_sound (P := P) (ρ := ρ) h0'
    refine ⟨v, s', h1, pcx hpc, fun {w0 φ sz a w} hρ hg hm => ?_⟩
    obtain ⟨φ', y, w', r1, r2, r3, r4⟩ := h2 (by rw [← hpc]; exact hρ.rg) hm (hu hg) (hu' hg)
    exact (EffO.of r1 r2 r3 r4 fun o ho => by unfold execOp; simp only [ho]).opO
  case store T x y =>
    obtain ⟨u, h0, hu⟩ := opd_inv (show opd t x (fun a => opd t y fun v => storeA P T s a v (skipK κ)) ∈ D from hD)
    obtain ⟨u', h0', hu'⟩ := opd_inv h0
    obtain ⟨s', h1, hpc, h2⟩ := store_sound (P := P) (ρ := ρ) h0'
    refine ⟨undefA, s', h1, pcx hpc, fun {w0 φ sz a w} _ hg hm => ?_⟩
    obtain ⟨w', r1, r2⟩ := h2 hm (hu hg) (hu' hg)
    exact (EffO.ofU (List.prefix_refl _) r2 r1 fun o ho => by unfold execOp; simp only [ho]).opO
  case makeMap T r =>
    have hD : mkMap s κ r ∈ D := hD
    unfold mkMap at hD
    split at hD
    · obtain ⟨v, s', h1, hpc, h2⟩ := mapNew_sound (P := P) (ρ := ρ) (T := T) hD
      exact ⟨v, s', h1, pcx hpc, fun {w0 φ sz a w} _ hg hm => (h2 hm).opO⟩
    · cases hD
  case mapUpdate T m k x =>
    obtain ⟨u, h0, hu⟩ := opd_inv (show opd t m (fun m => opd t k fun k => opd t x fun v => mapSet P T s m k v (skipK κ)) ∈ D from hD)
    obtain ⟨u', h0', hu'⟩ := opd_inv h0
    obtain ⟨u2, h02, hu2⟩ := opd_inv h0'
    obtain ⟨s', h1, hpc, h2⟩ := mapSet_sound (P := P) (ρ := ρ) h02
    refine ⟨undefA, s', h1, hpc, fun {w0 φ sz a w} hρ hg hm => ?_⟩
    obtain ⟨w', r1, r2⟩ := h2 hρ hm (hu hg) (hu' hg) (hu2 hg)
    exact (EffO.ofU (List.prefix_refl _) r1 r2 fun o ho => by unfold execOp; simp only [ho]).opO
  case insert T m k x =>
    obtain ⟨u, h0, hu⟩ := opd_inv (show opd t m (fun m => opd t k fun k => opd t x fun v => mapSet P T s m k v (skipK κ)) ∈ D from hD)
    obtain ⟨u', h0', hu'⟩ := opd_inv h0
    obtain ⟨u2, h02, hu2⟩ := opd_inv h0'
    obtain ⟨s', h1, hpc, h2⟩ := mapSet_sound (P := P) (ρ := ρ) h02
    refine ⟨undefA, s', h1, hpc, fun {w0 φ sz a w} hρ hg hm => ?_⟩
    obtain ⟨w', r1, r2⟩ := h2 hρ hm (hu hg) (hu' hg) (hu2 hg)
    exact (EffO.ofU (List.prefix_refl _) r1 r2 fun o ho => by unfold execOp; simp only [ho]).opO
  case convert src dst x =>
    have hD : cvt P s t κ src dst x ∈ D := hD
    unfold cvt at hD
    split at hD
    · exact quietK_sound hD
    · rcases brec_cases hD with ⟨_, hD⟩ | ⟨_, hD⟩
      · exact quietK_sound hD
      obtain ⟨u, h0, hu⟩ := opd_inv hD
      obtain ⟨v, s', h1, hpc, h2⟩ := convE_sound (P := P) (ρ := ρ) h0
      refine ⟨v, s', h1, pcx hpc, fun {w0 φ sz a w} _ hg hm => ?_⟩
      obtain ⟨φ', y, w', r1, r2, r3, r4⟩ := h2 hm (hu hg)
      exact (EffO.of r1 r2 r3 r4 fun o ho => by unfold execOp; simp only [ho]).opO
  case call c =>
    have hD : calE P call s t κ c ∈ D := hD
    unfold calE at hD
    split at hD
    · rename_i f hf
      obtain ⟨u, h0, hu⟩ := opd_inv hD
      obtain ⟨vs, h1, _, hvs⟩ := opds_inv h0
      obtain ⟨g, la, lb, rfl, h1⟩ := fnV_inv h1
      obtain ⟨v, s', h2, hx, h3⟩ := hc h1
      refine ⟨v, s', h2, hx, fun {w0 φ sz a w} hρ hg hm o ho next Q hn => ?_⟩
      have hfv := hu hg
      simp only [conc, Option.bind_eq_some_iff, Option.map_eq_some_iff] at hfv
      obtain ⟨xa, hxa, xb, hxb, hfe⟩ := hfv
      have hargs := hvs hg
      have q := h3 (w := w) hρ (concL_append.2 ⟨_, _, hxa, concL_append.2 ⟨_, _, hargs, hxb, rfl⟩, rfl⟩) hm
      refine q.upon (m := execOp a.eval o) ?_ hn
      unfold execOp
      simp only [ho, Sem.run_bind, resolve, hf, ← hfe, Deferred.ofValue, Sem.run_pure, Result.andThen_ok, invoke]
      congr 2
      apply Array.toList_inj.1
      simp
    · rename_i b hb
      unfold blt2 at hD
      split at hD
      · obtain ⟨vs, h1, _, hvs⟩ := opds_inv hD
        split at h1
        · rename_i x y
          obtain ⟨v, s', h2, hpc, h3⟩ := appX_sound (P := P) (ρ := ρ) h1
          refine ⟨v, s', h2, hpc, fun {w0 φ sz a w} hρ hg hm => EffO.opO ?_⟩
          obtain ⟨xa, ys, e1, e2, e3⟩ := concL_cons.1 (hvs hg)
          obtain ⟨xb, ys', e4, e5, e6⟩ := concL_cons.1 e2
          simp only [concL, Option.some.injEq] at e5
          subst e5; subst e6
          obtain ⟨φ', z, w', r1, r2, r3, r4⟩ := h3 hρ hm e1 e4
          refine ⟨φ', z, w', r1, r2, r3, fun o ho => .inl ?_⟩
          have hargs : c.args.map a.eval = #[xa, xb] := by apply Array.toList_inj.1; simp [e3]
          unfold execOp
          simp only [ho, Sem.run_bind, resolve, hb, Sem.run_pure, Result.andThen_ok, invoke, builtin, hargs, r4]
        · cases h1
      · obtain ⟨vs, h1, _, hvs⟩ := opds_inv hD
        split at h1
        · rename_i x y
          obtain ⟨T, hT, h2⟩ := optK_inv h1
          obtain ⟨v, s', h3, hpc, h4⟩ := copyX_sound (P := P) (ρ := ρ) hT h2
          refine ⟨v, s', h3, hpc, fun {w0 φ sz a w} hρ hg hm => EffO.opO ?_⟩
          obtain ⟨xa, ys, e1, e2, e3⟩ := concL_cons.1 (hvs hg)
          obtain ⟨xb, ys', e4, e5, e6⟩ := concL_cons.1 e2
          simp only [concL, Option.some.injEq] at e5
          subst e5; subst e6
          obtain ⟨z, w', r2, r3, r4⟩ := h4 hρ hm e1 e4
          refine ⟨φ, z, w', List.prefix_refl _, r2, r3, fun o ho => .inl ?_⟩
          have hargs : c.args.map a.eval = #[xa, xb] := by apply Array.toList_inj.1; simp [e3]
          unfold execOp
          simp only [ho, Sem.run_bind, resolve, hb, Sem.run_pure, Result.andThen_ok, invoke, builtin, hargs, r4]
        · cases h1
      · obtain ⟨vs, h1, _, hvs⟩ := opds_inv hD
        split at h1
        · rename_i x y
          obtain ⟨T, hT, h2⟩ := optK_inv h1
          obtain ⟨s', h3, hpc, h4⟩ := mapDel_sound (P := P) (ρ := ρ) hT h2
          refine ⟨_, s', h3, hpc, fun {w0 φ sz a w} hρ hg hm => EffO.opO ?_⟩
          obtain ⟨xa, ys, e1, e2, e3⟩ := concL_cons.1 (hvs hg)
          obtain ⟨xb, ys', e4, e5, e6⟩ := concL_cons.1 e2
          simp only [concL, Option.some.injEq] at e5
          subst e5; subst e6
          obtain ⟨w', r3, r4⟩ := h4 hρ hm e1 e4
          refine ⟨φ, .tuple #[], w', List.prefix_refl _, rfl, r3, fun o ho => .inl ?_⟩
          have hargs : c.args.map a.eval = #[xa, xb] := by apply Array.toList_inj.1; simp [e3]
          unfold execOp
          simp only [ho, Sem.run_bind, resolve, hb, Sem.run_pure, Result.andThen_ok, invoke, builtin, hargs, r4]
        · cases h1
      · obtain ⟨vs, h1, _, hvs⟩ := opds_inv hD
        split at h1
        · rename_i x
          obtain ⟨T, hT, h2⟩ := optK_inv h1
          obtain ⟨s', h3, hpc, h4⟩ := clear_sound (P := P) (ρ := ρ) hT h2
          refine ⟨_, s', h3, pcx hpc, fun {w0 φ sz a w} _ hg hm => EffO.opO ?_⟩
          obtain ⟨xa, ys, e1, e2, e3⟩ := concL_cons.1 (hvs hg)
          simp only [concL, Option.some.injEq] at e2
          subst e2
          obtain ⟨w', r3, r4⟩ := h4 hm e1
          refine ⟨φ, .tuple #[], w', List.prefix_refl _, rfl, r3, fun o ho => .inl ?_⟩
          have hargs : c.args.map a.eval = #[xa] := by apply Array.toList_inj.1; simp [e3]
          unfold execOp
          simp only [ho, Sem.run_bind, resolve, hb, Sem.run_pure, Result.andThen_ok, invoke, builtin, hargs, r4]
        · cases h1
      · exact quietK_sound hD
    · rename_i rv name hb
      obtain ⟨u, h0, hu⟩ := opd_inv hD
      obtain ⟨vs, h1, _, hvs⟩ := opds_inv h0
      unfold callM at h1
      obtain ⟨T, y, rfl, h1'⟩ := ifaceV_inv h1
      split at h1'
      · rename_i f hf
        obtain ⟨v, s', h2, hx, h3⟩ := hc h1'
        refine ⟨v, s', h2, hx, fun {w0 φ sz a w} hρ hg hm o ho next Q hn => ?_⟩
        have hfv := hu hg
        simp only [conc, Option.map_eq_some_iff] at hfv
        obtain ⟨yv, hy, hfe⟩ := hfv
        have q := h3 (w := w) hρ (concL_cons.2 ⟨_, _, hy, hvs hg, rfl⟩) hm
        refine q.upon (m := execOp a.eval o) ?_ hn
        unfold execOp
        simp only [ho, Sem.run_bind, resolve, hb, ← hfe, Sem.run_pure, Result.andThen_ok]
        rw [meth_run hf]
        congr 2
        apply Array.toList_inj.1
        simp
      · obtain ⟨b, hb', h1'⟩ := optK_inv h1'
        obtain ⟨id, off, rfl, h1''⟩ := ptrV_inv h1'
        obtain ⟨fo, hfo, h1''⟩ := optK_inv h1''
        rw [forceN_eq] at h1''
        obtain ⟨v, s', h2, hx, h3⟩ := hc h1''
        refine ⟨v, s', h2, hx, fun {w0 φ sz a w} hρ hg hm o ho next Q hn => ?_⟩
        have hfv := hu hg
        simp only [conc, Option.map_eq_some_iff] at hfv
        obtain ⟨yv, ⟨p, hp, rfl⟩, hfe⟩ := hfv
        have hy : conc φ ρ (.ptr id (off + fo)) = some (.pointer (some ⟨p.blk, p.sh + (off + fo), none⟩)) := by simp [conc, hp]
        have q := h3 (w := w) hρ (concL_cons.2 ⟨_, _, hy, hvs hg, rfl⟩) hm
        refine q.upon (m := execOp a.eval o) ?_ hn
        unfold execOp
        simp only [ho, Sem.run_bind, resolve, hb, ← hfe, Sem.run_pure, Result.andThen_ok]
        rw [methB_run hb' hfo]
        rw [Nat.add_assoc]
        congr 2
        apply Array.toList_inj.1
        simp
  case range T x =>
    obtain ⟨u, h0, hu⟩ := opd_inv (show opd t x (fun x => rangeA P T s x κ) ∈ D from hD)
    obtain ⟨v, s', h1, hpc, h2⟩ := range_sound (P := P) (ρ := ρ) h0
    refine ⟨v, s', h1, pcx hpc, fun {w0 φ sz a w} _ hg hm => ?_⟩
    obtain ⟨φ', y, w', r1, r2, r3, r4⟩ := h2 hm (hu hg)
    exact (EffO.of r1 r2 r3 r4 fun o ho => by unfold execOp; simp only [ho]).opO
  case next x str =>
    obtain ⟨u, h0, hu⟩ := opd_inv (show opd t x (fun x => nextA str s x κ) ∈ D from hD)
    obtain ⟨v, s', h1, hpc, h2⟩ := next_sound (P := P) (ρ := ρ) h0
    refine ⟨v, s', h1, pcx hpc, fun {w0 φ sz a w} _ hg hm => EffO.opO ?_⟩
    obtain ⟨y, w', r2, r3, r4⟩ := h2 hm (hu hg)
    refine ⟨φ, y, w', List.prefix_refl _, r2, r3, fun o ho => .inl ?_⟩
    unfold execOp
    simp only [ho, Sem.run_bind, r4 o.type, Result.andThen_ok]
    rfl
  all_goals exact quietK_sound (show quietK P s t _ κ ∈ D from hD)

/-! temporaries -/
theorem putK_inv {sz : Nat} {t : Ts} {v : AV} {κ : Ts → R} {d : Option Tmp} (hD : putK sz t v κ d ∈ D) : ∃ t', κ t' ∈ D ∧ ∀ {φ a x}, GA φ ρ t sz a → conc φ ρ v = some x → GA φ ρ t' sz (a.put d x) := by
  cases d with
  | none => exact ⟨t, hD, fun hg _ => hg⟩
  | some d =>
    obtain ⟨h1, h2⟩ := brec_inv (show Bool.rec (motive := fun _ => R) (.fail 160) (κ (Ts.put d v t)) (Nat.blt d sz) ∈ D from hD)
    rw [natBlt] at h1
    exact ⟨_, h2, fun hg hx => hg.put (of_decide_eq_true h1) hx⟩
theorem wantB_inv {pc : PC} {want : Bool} {κ : Bool → PC → R} {v : AV} (hD : wantB pc want κ v ∈ D) : ∃ b pc', κ b pc' ∈ D ∧ PcExt pc pc' ∧ ∀ {φ x}, Holds ρ pc' → conc φ ρ v = some x → ((match x with | .bool c => some c | _ => none : Option Bool) == some want) = b := by
  cases v
  case bool b =>
    obtain ⟨c, pc', h1, hx, hc⟩ := decK_inv (show decK pc b (fun b pc => κ (b == want) pc) ∈ D from hD)
    refine ⟨_, pc', h1, hx, fun {φ x} hρ hx => ?_⟩
    simp only [conc, Option.some.injEq, hc ρ hρ] at hx
    subst hx
    cases c <;> cases want <;> rfl
  case raw => cases hD
  case opq => cases hD
  case dfr => cases hD
  case ssl =>
    refine ⟨false, pc, hD, .refl _, fun {φ x} _ hx => ?_⟩
    obtain ⟨p, n, c, rfl⟩ := ssl_conc hx
    rfl
  case fsl =>
    refine ⟨false, pc, hD, .refl _, fun {φ x} _ hx => ?_⟩
    obtain ⟨p, n, c, rfl⟩ := fsl_conc hx
    rfl
  all_goals
    refine ⟨false, pc, hD, .refl _, fun {φ x} _ hx => ?_⟩
    simp only [conc, Option.map_eq_some_iff, Option.bind_eq_some_iff, Option.some.injEq] at hx
  case int => subst hx; rfl
  case ptr => obtain ⟨p, _, rfl⟩ := hx; rfl
  case sl => obtain ⟨p, _, rfl⟩ := hx; rfl
  case emp =>
    obtain ⟨p, _, rfl⟩ := hx
    rename_i i o0 o1 _ _
    by_cases hr : p.room o1 = 0 <;> simp [hr]
  case em0 => obtain ⟨p, _, rfl⟩ := hx; rfl
  case map => obtain ⟨p, _, rfl⟩ := hx; rfl
  case fn => obtain ⟨p, _, q, _, rfl⟩ := hx; rfl
  case iface => obtain ⟨p, _, rfl⟩ := hx; rfl
  case agg => obtain ⟨p, _, rfl⟩ := hx; rfl
  case tup => obtain ⟨p, _, rfl⟩ := hx; rfl
  case osl => subst hx; rfl
theorem yielded_eq {ops : Array Oper} {a : Act} {j d : Nat} (hd : (ops[j]?).bind (·.dst) = some d) : yielded ops a.tmps j = match a.tmps.getD d undef with | .bool c => some c | _ => none := by
  unfold yielded
  rw [hd]
  simp only [Option.bind_some]
  rcases Nat.lt_or_ge d a.tmps.size with h | h
  · rw [Array.getElem?_eq_getElem h]
    simp only [Array.getD, h, dite_true, Array.getInternal_eq_getElem]
    cases a.tmps[d] <;> rfl
  · rw [Array.getElem?_eq_none h]
    simp [Array.getD, Nat.not_lt.2 h, undef]
/-- what is remembered of a guard is so -/
def AsmOk (ρ : Nat → Int) (ops : Array Oper) (m : Asm) (t : Ts) (pc : PC) : Prop := match m with
  | .no => True
  | .yes g w d b => (ops[g]?).bind (·.dst) = some d ∧ ∃ v, t.get d = some v ∧ ∀ {φ x}, Holds ρ pc → conc φ ρ v = some x → ((match x with | .bool c => some c | _ => none : Option Bool) == some w) = b
theorem AsmOk.ext {ops : Array Oper} {m : Asm} {t : Ts} {pc pc' : PC} (h : AsmOk ρ ops m t pc) (hx : PcExt pc pc') : AsmOk ρ ops m t pc' := by
  cases m with
  | no => trivial
  | yes g w d b =>
    obtain ⟨h1, v, h2, h3⟩ := h
    exact ⟨h1, v, h2, fun hρ hc => h3 (hρ.of_ext hx) hc⟩
theorem AsmOk.want {ops : Array Oper} {g : Nat} {w b : Bool} {d : Nat} {t : Ts} {pc : PC} (h : AsmOk ρ ops (.yes g w d b) t pc) {φ : List Pl} {sz : Nat} {a : Act} (hρ : Holds ρ pc) (hg : GA φ ρ t sz a) : (yielded ops a.tmps g == some w) = b := by
  obtain ⟨h1, v, h2, h3⟩ := h
  rw [yielded_eq h1]
  exact h3 hρ (hg.tm d v h2)
theorem putK_inv' {sz : Nat} {t : Ts} {v : AV} {κ : Ts → R} {d : Option Tmp} (hD : putK sz t v κ d ∈ D) : ∃ t', κ t' ∈ D ∧ (∀ {φ a x}, GA φ ρ t sz a → conc φ ρ v = some x → GA φ ρ t' sz (a.put d x)) ∧ (∀ {ops m pc}, AsmOk ρ ops m t pc → AsmOk ρ ops (asmD m d) t' pc) ∧ ∀ e, d ≠ some e → t'.get e = t.get e := by
  cases d with
  | none =>
    refine ⟨t, hD, fun hg _ => hg, fun {ops m pc} h => ?_, fun _ _ => rfl⟩
    cases m <;> exact h
  | some d =>
    obtain ⟨h1, h2⟩ := brec_inv (show Bool.rec (motive := fun _ => R) (.fail 160) (κ (Ts.put d v t)) (Nat.blt d sz) ∈ D from hD)
    rw [natBlt] at h1
    refine ⟨_, h2, fun hg hx => hg.put (of_decide_eq_true h1) hx, fun {ops m pc} h => ?_, fun e he => (Tr.get_set t d v e).trans (if_neg fun h => he (by rw [h]))⟩
    cases m with
    | no => exact h
    | yes g w e b =>
      show AsmOk ρ ops (Bool.rec (motive := fun _ => Asm) (.yes g w e b) .no (Nat.beq d e)) (Ts.put d v t) pc
      cases hde : Nat.beq d e with
      | true => trivial
      | false =>
        rw [natBeq] at hde
        have hde := of_decide_eq_false hde
        obtain ⟨h1, u, h2, h3⟩ := h
        exact ⟨h1, u, ((Tr.get_set t d v e).trans (if_neg fun h => hde h.symm)).trans h2, h3⟩
theorem asmG_inv {m : Asm} {g : Nat × Bool} {no : R} {yes : Bool → R} (hD : asmG m g no yes ∈ D) : no ∈ D ∨ ∃ d b, m = .yes g.1 g.2 d b ∧ yes b ∈ D := by
  cases m with
  | no => exact .inl hD
  | yes g' w d b =>
    rcases brec_cases (show Bool.rec (motive := fun _ => R) no (yes b) (Nat.beq g' g.1 && eqB2 w g.2) ∈ D from hD) with ⟨h, h1⟩ | ⟨_, h1⟩
    · refine .inr ⟨d, b, ?_, h1⟩
      simp only [Bool.and_eq_true] at h
      obtain ⟨ha, hb⟩ := h
      rw [natBeq] at ha
      have ha := of_decide_eq_true ha
      have hb : w = g.2 := by
        revert hb
        cases w <;> cases g.2 <;> simp [eqB2, notF]
      rw [ha, hb]
    · exact .inl h1
theorem wantG_inv {ops : Array Oper} {t : Ts} {pc : PC} {κ : Asm → Bool → PC → R} {g : Nat × Bool} (hD : wantG ops t pc κ g ∈ D) : ∃ m b pc', κ m b pc' ∈ D ∧ PcExt pc pc' ∧ AsmOk ρ ops m t pc' ∧ setB m b = m ∧ ∀ {φ sz a}, Holds ρ pc' → GA φ ρ t sz a → (yielded ops a.tmps g.1 == some g.2) = b := by
  unfold wantG at hD
  cases hd : (ops[g.1]?).bind (·.dst) with
  | some d =>
    rw [hd] at hD
    obtain ⟨v, hv, hD⟩ := getK_inv (show t.getK d (wantB pc g.2 fun b pc => κ (.yes g.1 g.2 d b) b pc) ∈ D from hD)
    obtain ⟨b, pc', h1, hx, h2⟩ := wantB_inv (ρ := ρ) hD
    exact ⟨_, b, pc', h1, hx, ⟨hd, v, hv, h2⟩, rfl, fun hρ hg => by rw [yielded_eq hd]; exact h2 hρ (hg.tm d v hv)⟩
  | none =>
    rw [hd] at hD
    refine ⟨_, _, pc, hD, .refl _, trivial, rfl, fun _ _ => ?_⟩
    unfold yielded
    rw [hd]
    rfl
theorem wantK_inv {ops : Array Oper} {t : Ts} {pc : PC} {m : Asm} {κ : Asm → Bool → PC → R} {o : Oper} (ha : AsmOk ρ ops m t pc) (hD : wantK ops t pc m κ o.guard ∈ D) : ∃ m' b pc', κ m' b pc' ∈ D ∧ PcExt pc pc' ∧ AsmOk ρ ops m' t pc' ∧ setB m' b = m' ∧ ∀ {φ sz a}, Holds ρ pc' → GA φ ρ t sz a → Region.wanted o (yielded ops a.tmps) = b := by
  unfold wantK at hD
  cases hg : o.guard with
  | none =>
    rw [hg] at hD
    exact ⟨_, _, pc, hD, .refl _, trivial, rfl, fun _ _ => by simp [Region.wanted, hg]⟩
  | some g =>
    rw [hg] at hD
    rcases asmG_inv (show asmG m g (wantG ops t pc κ g) (fun b => κ m b pc) ∈ D from hD) with h | ⟨d, b, rfl, h⟩
    · obtain ⟨m', b, pc', h1, hx, h2, hs, h3⟩ := wantG_inv (ρ := ρ) h
      exact ⟨m', b, pc', h1, hx, h2, hs, fun hρ hga => by simp only [Region.wanted, hg]; exact h3 hρ hga⟩
    · exact ⟨_, b, pc, h, .refl _, ha, rfl, fun hρ hga => by simp only [Region.wanted, hg]; exact ha.want hρ hga⟩

/-! rows of operations -/
theorem dfrK_inv {sz : Nat} {s : St} {t : Ts} {d : Option Tmp} {κ : RK} {op : Op} (h : dfrK sz s t d κ op ∈ D) : ∃ c f, op = .defer c ∧ c.callee = .value f ∧ d = none ∧ opd t f (fun f => opds t c.args.toList fun l => fnV f fun g a b => κ s (Ts.put sz (.dfr (.fn (.func g) [] b) (a ++ l) (restD sz t)) t)) ∈ D := by
  unfold dfrK at h
  split at h
  · rename_i c
    cases d with
    | some d => cases h
    | none =>
      have h : dfrC sz s t κ c ∈ D := h
      unfold dfrC at h
      split at h
      · rename_i f hf
        exact ⟨c, f, rfl, hf, rfl, h⟩
      · cases h
  · cases h
/-- what is not laid stands as it did -/
def Keeps (sz : Nat) (l : List Oper) (t t' : Ts) : Prop := ∀ e, (e ≠ sz ∨ ∀ o ∈ l, isDef o.op = false) → (∀ o ∈ l, o.dst ≠ some e) → t'.get e = t.get e
theorem evOps_sound {ops : Array Oper} {call : CallT} (hc : CallSound P ρ call) {sz : Nat} : ∀ {l : List Oper} {m : Asm} {s : St} {t : Ts} {κ : RK}, AsmOk ρ ops m t s.pc → evOps P ops call sz l m s t κ ∈ D → ∃ s' t', κ s' t' ∈ D ∧ PcExt s.pc s'.pc ∧ Keeps sz l t t' ∧ ∀ {w0 φ a w}, Holds ρ s'.pc → GA φ ρ t sz a → Gm P ρ w0 φ s w →
    ∀ (Q : Exit → Act → World → Prop), (∀ φ' a' w', φ <+: φ' → GA φ' ρ t' sz a' → Gm P ρ w0 φ' s' w' → Q .normal a' w') → wpList P ops Q l a w
  | [], m, s, t, κ, _, hD => ⟨s, t, hD, .refl _, fun _ _ _ => rfl, fun {w0 φ a w} _ hg hm Q hQ => hQ φ a w (List.prefix_refl _) hg hm⟩
  | o :: l, m, s, t, κ, ha, hD => by
    have hD : opG P ops call sz m s t (fun m s t => evOps P ops call sz l m s t κ) o ∈ D := hD
    -- the operation itself
    have run : ∀ {m : Asm} {s : St}, AsmOk ρ ops m t s.pc → opE P call sz o s t (fun s t => evOps P ops call sz l (asmD m o.dst) s t κ) (fun s t => evOps P ops call sz l .no s t κ) ∈ D → ∃ s' t', κ s' t' ∈ D ∧ PcExt s.pc s'.pc ∧ Keeps sz (o :: l) t t' ∧ ∀ {w0 φ a w}, Holds ρ s'.pc → GA φ ρ t sz a → Gm P ρ w0 φ s w →
        ∀ (Q : Exit → Act → World → Prop), (∀ φ' a' w', φ <+: φ' → GA φ' ρ t' sz a' → Gm P ρ w0 φ' s' w' → Q .normal a' w') → o.wp P a w (wpList P ops Q l) Q := by
      intro m s ha h
      rcases brec_cases h with ⟨hdf, h⟩ | ⟨_, h⟩
      · obtain ⟨c, f, hop, hcal, hdst, h⟩ := dfrK_inv h
        obtain ⟨u, h, hu⟩ := opd_inv h
        obtain ⟨vs, h, _, hvs⟩ := opds_inv h
        obtain ⟨g, la, lb, rfl, h⟩ := fnV_inv h
        obtain ⟨s2, t2, h5, x2, k2, h6⟩ := evOps_sound hc (m := .no) trivial h
        refine ⟨s2, t2, h5, x2, fun e he hd => (k2 e (he.imp id fun h o ho => h o (List.mem_cons_of_mem _ ho)) fun o ho => hd o (List.mem_cons_of_mem _ ho)).trans ((Tr.get_set t sz _ e).trans (if_neg (he.resolve_right fun h => by have := h o (List.mem_cons_self ..); rw [hdf] at this; cases this))), fun {w0 φ a w} hρ hg hm Q hQ => ?_⟩
        have hfv := hu hg
        simp only [conc, Option.bind_eq_some_iff, Option.map_eq_some_iff] at hfv
        obtain ⟨xa, hxa, xb, hxb, hfe⟩ := hfv
        have hg' := hg.defer (g := g) (rest := restD sz t) (by unfold restD; cases t.get sz <;> rfl) hxb (concL_append.2 ⟨_, _, hxa, hvs hg, rfl⟩)
        unfold Oper.wp
        have hexec : (execOp a.eval o).run P w = .ok (.defer { target := .fn (.func g) xb.toArray, args := (xa ++ c.args.toList.map a.eval).toArray }) w := by
          unfold execOp
          simp only [hop, Sem.run_bind, resolve, hcal, ← hfe, Deferred.ofValue, Sem.run_pure, Result.andThen_ok]
          congr 3
          apply Array.toList_inj.1
          simp
        rw [hexec, Oper.upon_defer, hdst]
        exact h6 hρ hg' hm Q hQ
      obtain ⟨v, s1, h1, x1, h2⟩ := evOp_sound hc h
      obtain ⟨t1, h3, h4, ha1, k1⟩ := putK_inv' (ρ := ρ) (show putK sz t v ((fun s t => evOps P ops call sz l (asmD m o.dst) s t κ) s1) o.dst ∈ D from h1)
      obtain ⟨s2, t2, h5, x2, k2, h6⟩ := evOps_sound hc (ha1 (ha.ext x1)) h3
      refine ⟨s2, t2, h5, x1.trans x2, fun e he hd => (k2 e (he.imp id fun h o ho => h o (List.mem_cons_of_mem _ ho)) fun o ho => hd o (List.mem_cons_of_mem _ ho)).trans (k1 e (hd o (List.mem_cons_self ..))), fun {w0 φ a w} hρ hg hm Q hQ => ?_⟩
      exact h2 (hρ.of_ext x2) hg hm o rfl _ Q fun φ' x w' p1 c1 m1 => h6 hρ (h4 (hg.mono p1) c1) m1 Q fun φ2 a2 w2 p2 g2 m2 => hQ φ2 a2 w2 (p1.trans p2) g2 m2
    -- decided
    have dec : ∀ {m : Asm} {b : Bool} {pc' : PC} {g : Nat × Bool}, o.guard = some g → PcExt s.pc pc' → AsmOk ρ ops m t pc' → setB m b = m → (∀ {φ sz a}, Holds ρ pc' → GA φ ρ t sz a → (yielded ops a.tmps g.1 == some g.2) = b) → opW P call sz o s t (fun m s t => evOps P ops call sz l m s t κ) m b pc' ∈ D → ∃ s' t', κ s' t' ∈ D ∧ PcExt s.pc s'.pc ∧ Keeps sz (o :: l) t t' ∧ ∀ {w0 φ a w}, Holds ρ s'.pc → GA φ ρ t sz a → Gm P ρ w0 φ s w →
        ∀ (Q : Exit → Act → World → Prop), (∀ φ' a' w', φ <+: φ' → GA φ' ρ t' sz a' → Gm P ρ w0 φ' s' w' → Q .normal a' w') → wpList P ops Q (o :: l) a w := by
      intro m b pc' g hgd x1 ha hs hb h1
      unfold opW at h1
      have h1 : Bool.rec (motive := fun _ => R) (putK sz t undefA (fun t => evOps P ops call sz l (asmD (setB m false) o.dst) ⟨s.hp, s.nx, pc'⟩ t κ) o.dst) (opE P call sz o ⟨s.hp, s.nx, pc'⟩ t (fun s t => evOps P ops call sz l (asmD (setB m true) o.dst) s t κ) (fun s t => evOps P ops call sz l .no s t κ)) b ∈ D := by cases s; exact h1
      rcases brec_cases h1 with ⟨rfl, h2⟩ | ⟨rfl, h2⟩ <;> rw [hs] at h2
      · obtain ⟨s', t', h3, hx, k1, h4⟩ := run (s := ⟨s.hp, s.nx, pc'⟩) ha h2
        refine ⟨s', t', h3, x1.trans hx, k1, fun {w0 φ a w} hρ hg hm Q hQ => ?_⟩
        unfold wpList
        rw [if_pos (by simp only [Region.wanted, hgd]; exact hb (hρ.of_ext hx) hg)]
        exact .inl (h4 hρ hg (hm.pc pc') Q hQ)
      · obtain ⟨t1, h3, h4, ha1, k1⟩ := putK_inv' (ρ := ρ) h2
        obtain ⟨s', t', h5, hx, k2, h6⟩ := evOps_sound (s := ⟨s.hp, s.nx, pc'⟩) hc (ha1 ha) h3
        refine ⟨s', t', h5, x1.trans hx, fun e he hd => (k2 e (he.imp id fun h o ho => h o (List.mem_cons_of_mem _ ho)) fun o ho => hd o (List.mem_cons_of_mem _ ho)).trans (k1 e (hd o (List.mem_cons_self ..))), fun {w0 φ a w} hρ hg hm Q hQ => ?_⟩
        unfold wpList
        rw [if_neg (by simp only [Region.wanted, hgd]; rw [hb (hρ.of_ext hx) hg]; simp)]
        exact h6 hρ (h4 hg rfl) (hm.pc pc') Q hQ
    unfold opG at hD
    cases hgd : o.guard with
    | none =>
      rw [hgd] at hD
      obtain ⟨s', t', h1, hx, k1, h2⟩ := run (m := .no) trivial hD
      refine ⟨s', t', h1, hx, k1, fun {w0 φ a w} hρ hg hm Q hQ => ?_⟩
      unfold wpList
      rw [if_pos (by simp [Region.wanted, hgd])]
      exact .inl (h2 hρ hg hm Q hQ)
    | some g =>
      rw [hgd] at hD
      rcases asmG_inv (show asmG m g (wantG ops t s.pc (opW P call sz o s t fun m s t => evOps P ops call sz l m s t κ) g) (fun b => opW P call sz o s t (fun m s t => evOps P ops call sz l m s t κ) m b s.pc) ∈ D from hD) with h | ⟨d, b, rfl, h⟩
      · obtain ⟨m', b, pc', h1, x1, ha1, hs1, hb⟩ := wantG_inv (ρ := ρ) h
        exact dec hgd x1 ha1 hs1 hb h1
      · exact dec hgd (.refl _) ha rfl (fun hρ hga => ha.want hρ hga) h
end

end Go.Proofs.YticednpolhnneaaGreat
