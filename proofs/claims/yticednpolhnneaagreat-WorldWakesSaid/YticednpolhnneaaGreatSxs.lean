/-
  A run reckoned ahead: a whole call does what was reckoned.
-/
import Derived.Test.YticednpolhnneaaGreatSad
import Derived.Defers
set_option linter.unusedVariables false
set_option linter.unusedSimpArgs false
namespace Go.Proofs.YticednpolhnneaaGreat
open Go

section
variable {P : Program} {ρ : Nat → Int} {w0 : Base} {pl : Plans} {sm : Sums}

/-- the plans serve every function -/
structure PlansOk (P : Program) (pl : Plans) : Prop where
  code : ∀ f fn c, P.funcs[f]? = some fn → fn.body = some c → codeOk pl f c = true
  ac : ∀ a ∈ pl.ac, AccOk a

/-- what a call does, from one abstract state to another -/
def CallDoes (P : Program) (ρ : Nat → Int) (f : FuncId) (args : List AV) (s : St) (v : AV) (s' : St) : Prop := ∀ {w0 : Base} {φ : List Pl} {w : World} {xs : List Value}, Holds ρ s'.pc → concL φ ρ args = some xs → Gm P ρ w0 φ s w →
  CallsOr P f xs.toArray w fun x w' => ∃ φ', φ <+: φ' ∧ conc φ' ρ v = some x ∧ Gm P ρ w0 φ' s' w'
theorem CallsOr.of {f : FuncId} {xs : Array Value} {w : World} {φ : List Pl} {v : AV} {s' : St} (h1 : (callFunc f xs).run P w = .ok (.enter f xs) w) (h2 : Calls P f xs w fun e w' => ∃ φ' x, e = .returned x ∧ φ <+: φ' ∧ conc φ' ρ v = some x ∧ Gm P ρ w0 φ' s' w') : CallsOr P f xs w fun x w' => ∃ φ', φ <+: φ' ∧ conc φ' ρ v = some x ∧ Gm P ρ w0 φ' s' w' :=
  .inl ⟨h1, h2.mono fun e w' ⟨φ', x, a, b⟩ => ⟨x, a, φ', b⟩⟩
/-- what was known ahead holds -/
def SumsOk (P : Program) (sm : Sums) : Prop := ∀ {ρ : Nat → Int} {f : FuncId} {args : List AV} {s : St} {κ : AV → St → R} {alt : R} {D : Dn}, sm f args s κ alt ∈ D → alt ∈ D ∨ ∃ v s', κ v s' ∈ D ∧ PcExt s.pc s'.pc ∧ CallDoes P ρ f args s v s'
theorem Gm.keeps {φ : List Pl} {s : St} {w w' : World} (hm : Gm P ρ w0 φ s w) (hk : Kp [] w w') : Gm P ρ w0 φ s w' :=
  hm.world (hm.kp.trans hk) hk.size (fun i o q hi hl hq => hk.block q.blk (hm.lo i q hq).2 (by simp)) (fun x _ hlt _ => hk.block x.1 hlt (by simp))
/-- a body that was entered -/
theorem callX_sound {K : Nat → List ResultVar → (AV → St → R) → Ex → St → Ts → R} {ih : EvT} (hP : PlansOk P pl) (hih : CodeSound P ρ pl ih) {f : FuncId} {args : List AV} {s : St} {κ : AV → St → R} {D : Dn} (hD : optK (P.funcs[f]?) 183 (fun fn => optK fn.body 184 (callX K ih f fn args s κ)) ∈ D) :
    ∃ fn c e s' t', P.funcs[f]? = some fn ∧ fn.body = some c ∧ (fn.name == "runtime.NumGoroutine") = false ∧ K (max fn.ntmps args.length) fn.results.toList κ e s' t' ∈ D ∧ PcExt s.pc s'.pc ∧ ∀ {w0 φ w xs}, Holds ρ s'.pc → concL φ ρ args = some xs → Gm P ρ w0 φ s w →
      (callFunc f xs.toArray).run P w = .ok (.enter f xs.toArray) w ∧ c.wp P (Post P ρ w0 φ (max fn.ntmps args.length) e s' t') { tmps := xs.toArray ++ Array.replicate (fn.ntmps - xs.toArray.size) undef, defers := [] } w := by
  obtain ⟨fn, hfn, h1⟩ := optK_inv hD
  obtain ⟨c, hc, h2⟩ := optK_inv h1
  unfold callX at h2
  rcases brec_cases h2 with ⟨_, h3⟩ | ⟨hname, h3⟩
  · cases h3
  rw [maxF_eq, lenL_eq] at h3
  unfold callT at h3
  obtain ⟨e, s', t', h4, hx, h5⟩ := hih (hP.code f fn c hfn hc) h3
  refine ⟨fn, c, e, s', t', hfn, hc, hname, h4, hx, fun {w0 φ w xs} hρ hxs hm => ⟨?_, ?_⟩⟩
  · unfold callFunc
    rw [Sem.run_bind]
    simp only [program, Sem.run, Result.andThen_ok, hfn, hname, hc, Option.isNone_some, Bool.false_eq_true, if_false]
    rfl
  · have hl := concL_length hxs
    refine h5 (φ := φ) hρ ?_ hm
    have hts : ∀ d v, (tsOf (max fn.ntmps args.length) args).get d = some v → d < args.length := fun d v hv => (List.getElem?_eq_some_iff.1 (tsOf_get hv)).1
    refine ⟨by simp [hl]; omega, fun d v hv => ?_, ?_⟩
    · obtain ⟨x, e1, e2⟩ := concL_get hxs (tsOf_get hv)
      rw [e1]
      congr 1
      have hd2 : d < xs.length := (List.getElem?_eq_some_iff.1 e2).1
      rw [List.getElem?_eq_getElem hd2] at e2
      cases e2
      simp [Array.getD, Array.getElem_append, hd2]
      intro h; omega
    · cases hg : (tsOf (max fn.ntmps args.length) args).get (max fn.ntmps args.length) with
      | none => exact .none
      | some v => have := hts _ _ hg; omega
/-- put off: the frame that leaves -/
def DSound (P : Program) (ρ : Nat → Int) (call : CallT) : Prop := ∀ {f : FuncId} {args : List AV} {s : St} {κ : AV → St → R} {D : Dn}, call f args s κ ∈ D → ∃ v s', κ v s' ∈ D ∧ PcExt s.pc s'.pc ∧ ∀ {w0 φ w xs}, Holds ρ s'.pc → concL φ ρ args = some xs → Gm P ρ w0 φ s w →
  (callFunc f xs.toArray).run P w = .ok (.enter f xs.toArray) w ∧ ∀ u, CallsD P f xs.toArray u w fun e u' w' => u' = u ∧ ∃ φ' x, e = .returned x ∧ φ <+: φ' ∧ Gm P ρ w0 φ' s' w'
theorem callD_sound {ih : EvT} (hP : PlansOk P pl) (hih : CodeSound P ρ pl ih) : DSound P ρ (callD P ih) := by
  intro f args s κ D hD
  obtain ⟨fn, c, e, s', t', hfn, hc, hname, h4, hx, h5⟩ := callX_sound hP hih hD
  have he : (e = .normal ∨ e = .ret) ∧ t'.get (max fn.ntmps args.length) = none ∧ retR P fn.results.toList κ s' t' ∈ D := by
    unfold noneK at h4
    cases hg : t'.get (max fn.ntmps args.length) with
    | none => cases e with
      | normal => rw [hg] at h4; exact ⟨.inl rfl, rfl, h4⟩
      | exit id => cases h4
      | ret => rw [hg] at h4; exact ⟨.inr rfl, rfl, h4⟩
    | some v => cases e with
      | normal => rw [hg] at h4; cases h4
      | exit id => cases h4
      | ret => rw [hg] at h4; cases h4
  obtain ⟨v, h6, h7⟩ := retR_sound (ρ := ρ) he.2.2
  refine ⟨v, s', h6, hx, fun {w0 φ w xs} hρ hxs hm => ?_⟩
  obtain ⟨r1, r2⟩ := h5 (w := w) hρ hxs hm
  refine ⟨r1, fun u => callsD_of_wp hfn hc (R := fun e w' => ∃ φ' x, e = Ending.returned x ∧ φ <+: φ' ∧ Gm P ρ w0 φ' s' w') (Code.wp_mono (fun e' a' w' hp => ?_) r2)⟩
  obtain ⟨rfl, φ', p1, g1, m1⟩ := hp
  obtain ⟨x, hx1, hx2⟩ := h7 g1 m1
  have hdf : a'.defers = [] := by
    have := g1.df
    rw [he.2.1] at this
    cases hds : a'.defers with
    | nil => rfl
    | cons d ds => rw [hds] at this; cases this
  have : a'.defers = [] ∧ ∃ v, (results fn a'.tmps).run P w' = .ok v w' ∧ (fun e w' => ∃ φ' x, e = Ending.returned x ∧ φ <+: φ' ∧ Gm P ρ w0 φ' s' w') (.returned v) w' := ⟨hdf, x, hx2, φ', x, rfl, p1, m1⟩
  rcases he.1 with rfl | rfl
  · exact this
  · exact this
/-- what was put off is done -/
theorem leaveD_sound {call : CallT} (hc : DSound P ρ call) : ∀ (v : AV) (s : St) (κ : St → R) (D : Dn), leaveD call v s κ ∈ D → ∃ s', κ s' ∈ D ∧ PcExt s.pc s'.pc ∧ ∀ {fn : Func} {R' : Ending → World → Prop} {w0 φ w ds tmps}, Holds ρ s'.pc → DfOk φ ρ (some v) ds → Gm P ρ w0 φ s w →
    (∀ φ' w', φ <+: φ' → Gm P ρ w0 φ' s' w' → ∃ x, (results fn tmps).run P w' = .ok x w' ∧ R' (.returned x) w') → Leaves P fn tmps R' ds .returning w
  | .tup l, s, κ, D, hD => by
    cases l with
    | nil =>
      refine ⟨s, hD, .refl _, fun {fn R' w0 φ w ds tmps} _ hd hm hn => ?_⟩
      generalize ho : (some (AV.tup []) : Option AV) = o at hd
      cases hd with
      | none => cases ho
      | nil => exact hn φ w (List.prefix_refl _) hm
      | cons _ _ _ => cases ho
    | cons x l => cases hD
  | .dfr f args rest, s, κ, D, hD => by
    have hD : fnV f (fun g a b => call g (a ++ (args ++ b)) s fun _ s => leaveD call rest s κ) ∈ D := hD
    obtain ⟨g, la, lb, rfl, h1⟩ := fnV_inv hD
    obtain ⟨v, s1, h2, x1, h3⟩ := hc h1
    obtain ⟨s2, h4, x2, h5⟩ := leaveD_sound hc rest _ _ _ h2
    refine ⟨s2, h4, x1.trans x2, fun {fn R' w0 φ w ds tmps} hρ hd hm hn => ?_⟩
    generalize ho : (some (AV.dfr (.fn (.func g) la lb) args rest) : Option AV) = o at hd
    cases hd with
    | none => cases ho
    | nil => cases ho
    | cons hb hl hrest =>
      cases ho
      obtain ⟨r1, r2⟩ := h3 (w := w) (hρ.of_ext x2) (concL_append.2 ⟨[], _, rfl, concL_append.2 ⟨_, _, hl, hb, rfl⟩, rfl⟩) hm
      refine leaves_cons (by simp) (f := g) (args := _) ?_ ((r2 .returning).mono fun e u' w' ⟨hu, φ', x, he, p1, m1⟩ => ?_)
      · simp only [invoke]
        rw [← r1]
        congr 2
        apply Array.toList_inj.1
        simp
      · subst hu; subst he
        exact h5 hρ (hrest.mono p1) m1 fun φ'' w'' p2 m2 => hn φ'' w'' (p1.trans p2) m2
  | .int _ _, s, κ, D, hD => by cases hD
  | .bool _, s, κ, D, hD => by cases hD
  | .ptr _ _, s, κ, D, hD => by cases hD
  | .sl _ _ _ _, s, κ, D, hD => by cases hD
  | .emp _ _ _, s, κ, D, hD => by cases hD
  | .em0 _ _ _, s, κ, D, hD => by cases hD
  | .map _, s, κ, D, hD => by cases hD
  | .fn _ _ _, s, κ, D, hD => by cases hD
  | .iface _ _, s, κ, D, hD => by cases hD
  | .agg _, s, κ, D, hD => by cases hD
  | .raw _, s, κ, D, hD => by cases hD
  | .opq _, s, κ, D, hD => by cases hD
  | .osl _ _ _, s, κ, D, hD => by cases hD
  | .ssl _ _ _ _ _, s, κ, D, hD => by cases hD
  | .fsl _ _ _ _, s, κ, D, hD => by cases hD
/-- a call whose body is entered -/
def CallEnters (P : Program) (ρ : Nat → Int) (call : CallT) : Prop := ∀ {f : FuncId} {args : List AV} {s : St} {κ : AV → St → R} {D : Dn}, call f args s κ ∈ D → ∃ v s', κ v s' ∈ D ∧ PcExt s.pc s'.pc ∧ ∀ {w0 φ w xs}, Holds ρ s'.pc → concL φ ρ args = some xs → Gm P ρ w0 φ s w →
  (callFunc f xs.toArray).run P w = .ok (.enter f xs.toArray) w ∧ Calls P f xs.toArray w fun e w' => ∃ x, e = .returned x ∧ ∃ φ', φ <+: φ' ∧ conc φ' ρ v = some x ∧ Gm P ρ w0 φ' s' w'
theorem callG_enters {ih : EvT} (hP : PlansOk P pl) (hih : CodeSound P ρ pl ih) : CallEnters P ρ (callG P ih) := by
  intro f args s κ D hD
  obtain ⟨fn, c, e, s1, t', hfn, hc, hname, h4, hx, h5⟩ := callX_sound hP hih hD
  have he : (e = .normal ∨ e = .ret) ∧ goneK P (callD P ih) (max fn.ntmps args.length) fn.results.toList κ s1 t' ∈ D := by
    unfold retK at h4
    cases e with
    | normal => exact ⟨.inl rfl, h4⟩
    | exit id => cases h4
    | ret => exact ⟨.inr rfl, h4⟩
  obtain ⟨heX, h4⟩ := he
  unfold goneK at h4
  cases hg : t'.get (max fn.ntmps args.length) with
  | none =>
    rw [hg] at h4
    obtain ⟨v, h6, h7⟩ := retR_sound (ρ := ρ) (show retR P fn.results.toList κ s1 t' ∈ D from h4)
    refine ⟨v, s1, h6, hx, fun {w0 φ w xs} hρ hxs hm => ?_⟩
    obtain ⟨r1, r2⟩ := h5 (w := w) hρ hxs hm
    refine ⟨r1, calls_of_wp hfn hc (Code.wp_mono (fun e' a' w' hp => ?_) r2)⟩
    obtain ⟨rfl, φ', p1, g1, m1⟩ := hp
    obtain ⟨x, hx1, hx2⟩ := h7 g1 m1
    have hdf : a'.defers = [] := by
      have := g1.df
      rw [hg] at this
      cases hds : a'.defers with
      | nil => rfl
      | cons d ds => rw [hds] at this; cases this
    have : a'.defers = [] ∧ ∃ v, (results fn a'.tmps).run P w' = .ok v w' ∧ (fun e w' => ∃ x, e = Ending.returned x ∧ ∃ φ', φ <+: φ' ∧ conc φ' ρ _ = some x ∧ Gm P ρ w0 φ' s1 w') (.returned v) w' := ⟨hdf, x, hx2, x, rfl, φ', p1, hx1, m1⟩
    rcases heX with rfl | rfl
    · exact this
    · exact this
  | some d =>
    rw [hg] at h4
    obtain ⟨s2, h6, x2, h7⟩ := leaveD_sound (callD_sound hP hih) d s1 _ _ (show leaveD (callD P ih) d s1 (fun s => retR P fn.results.toList κ s t') ∈ D from h4)
    obtain ⟨v, h8, h9⟩ := retR_sound (ρ := ρ) h6
    refine ⟨v, s2, h8, hx.trans x2, fun {w0 φ w xs} hρ hxs hm => ?_⟩
    obtain ⟨r1, r2⟩ := h5 (w := w) (hρ.of_ext x2) hxs hm
    refine ⟨r1, calls_of_wp_defers hfn hc (Code.wp_mono (fun e' a' w' hp => ?_) r2)⟩
    obtain ⟨rfl, φ', p1, g1, m1⟩ := hp
    have hdf := g1.df
    rw [hg] at hdf
    have hl : Leaves P fn a'.tmps (fun e w' => ∃ x, e = Ending.returned x ∧ ∃ φ', φ <+: φ' ∧ conc φ' ρ v = some x ∧ Gm P ρ w0 φ' s2 w') a'.defers .returning w' := h7 hρ hdf m1 fun φ'' w'' p2 m2 => by
      obtain ⟨x, hx1, hx2⟩ := h9 (g1.mono p2) m2
      exact ⟨x, hx2, x, rfl, φ'', p1.trans p2, hx1, m2⟩
    rcases heX with rfl | rfl
    · exact hl
    · exact hl
theorem callG_sound {ih : EvT} (hP : PlansOk P pl) (hih : CodeSound P ρ pl ih) : CallSound P ρ (callG P ih) := by
  intro f args s κ D hD
  obtain ⟨v, s', h1, hx, h2⟩ := callG_enters hP hih hD
  exact ⟨v, s', h1, hx, fun hρ hxs hm => .inl (h2 hρ hxs hm)⟩
theorem callF_sound {ih : EvT} (hP : PlansOk P pl) (hS : SumsOk P sm) (hih : CodeSound P ρ pl ih) : CallSound P ρ (callF P sm ih) := by
  intro f args s κ D hD
  unfold callF at hD
  rcases hS (ρ := ρ) hD with h | ⟨v, s', h1, hx, h2⟩
  · exact callG_sound hP hih h
  · exact ⟨v, s', h1, hx, fun hρ hxs hm => h2 hρ hxs hm⟩

theorem ev_sound (hm : P.follows .mixedOrders = true) (hP : PlansOk P pl) (hS : SumsOk P sm) (N : Nat) : ∀ n, ∀ ρ, CodeSound P ρ pl (ev P pl sm N n) := by
  intro n
  induction n with
  | zero => intro ρ f sz c s t κ D _ h; cases h
  | succ n ihA =>
    intro ρ f sz c s t κ D hok hD
    have ih : CodeSound P ρ pl (ev P pl sm N n) := ihA ρ
    have hD : evF P pl sm N (ev P pl sm N n) f sz c s t κ ∈ D := hD
    have pcx : ∀ {s s' : St}, s'.pc = s.pc → PcExt s.pc s'.pc := fun h => by rw [h]; exact .refl _
    cases c with
    | skip => exact ⟨.normal, s, t, hD, .refl _, fun {w0 φ a w} _ hg hmm => wp_skip (Post.mk (e := .normal) (List.prefix_refl _) hg hmm)⟩
    | label l => exact ⟨.normal, s, t, hD, .refl _, fun {w0 φ a w} _ hg hmm => wp_label (Post.mk (e := .normal) (List.prefix_refl _) hg hmm)⟩
    | exit id => exact ⟨.exit id, s, t, hD, .refl _, fun {w0 φ a w} _ hg hmm => wp_exit (Post.mk (e := .exit id) (List.prefix_refl _) hg hmm)⟩
    | ret => exact ⟨.ret, s, t, hD, .refl _, fun {w0 φ a w} _ hg hmm => wp_ret (Post.mk (e := .ret) (List.prefix_refl _) hg hmm)⟩
    | region id ops draw =>
      have hD : regC P pl sm (ev P pl sm N n) f sz s t κ id ops draw ∈ D := hD
      unfold regC at hD
      rcases brec_cases hD with ⟨rfl, h1⟩ | ⟨rfl, h1⟩
      · obtain ⟨p, hp, h2⟩ := optK_inv h1
        unfold drawK at h2
        have hok2 : (mixOk ops p || flOk ops p) = true := by simpa [codeOk, hp] using hok
        by_cases hpk : mixOk ops p = true
        rotate_left
        · have hfk : flOk ops p = true := by simpa [hpk] using hok2
          unfold flOk at hfk
          split at hfk
          · rename_i of hof
            split at hfk
            · rename_i df hdf
              simp only [Bool.and_eq_true] at hfk
              obtain ⟨hfl, hfp, hmf, hn⟩ := hfk
              have hsel : Region.noSelect ops = true := by
                simp only [mixFB, Bool.and_eq_true] at hmf
                exact hmf.1
              obtain ⟨s', t', h3, hx, h4⟩ := evMixF_top (callF_sound hP hS ih) hsel hof hdf hfl p hfp h2
              refine ⟨.normal, s', t', h3, hx, fun {w0 φ a w} hρ hg hmm => ?_⟩
              refine wp_region_mixF p hm (by rw [hmf, hn]; rfl) (h4 hρ hg hmm _ (fun c a a' w h => (h : False).elim) fun φ' a' w' p1 g1 m1 => ?_)
              exact (Post.mk (e := .normal) p1 g1 m1 : Post P ρ w0 φ sz .normal s' t' .normal a' w')
            · cases hfk
          · cases hfk
        obtain ⟨s', t', h3, hx, h4⟩ := evMix_sound (callF_sound hP hS ih) h2
        refine ⟨.normal, s', t', h3, hx, fun {w0 φ a w} hρ hg hmm => ?_⟩
        refine wp_region_mix p hm hpk (h4 hρ hg hmm _ fun φ' a' w' p1 g1 m1 => ?_)
        exact (Post.mk (e := .normal) p1 g1 m1 : Post P ρ w0 φ sz .normal s' t' .normal a' w')
      · obtain ⟨s', t', h3, hx, _, h4⟩ := evOps_sound (callF_sound hP hS ih) (m := .no) trivial h1
        exact ⟨.normal, s', t', h3, hx, fun {w0 φ a w} hρ hg hmm => wp_region_list (h4 hρ hg hmm _ fun φ' a' w' p1 g1 m1 => Post.mk (e := .normal) p1 g1 m1)⟩
    | seq x y =>
      simp only [codeOk, Bool.and_eq_true] at hok
      obtain ⟨e, s1, t1, h1, x1, h2⟩ := ih hok.1 (show ev P pl sm N n f sz x s t (seqK (ev P pl sm N n) f sz y κ) ∈ D from hD)
      cases e with
      | normal =>
        obtain ⟨e2, s2, t2, h3, x2, h4⟩ := ih hok.2 (show ev P pl sm N n f sz y s1 t1 κ ∈ D from h1)
        refine ⟨e2, s2, t2, h3, x1.trans x2, fun {w0 φ a w} hρ hg hmm => wp_seq (Code.wp_mono (fun e' a' w' hp => ?_) (h2 (hρ.of_ext x2) hg hmm))⟩
        obtain ⟨rfl, φ', p1, g1, m1⟩ := hp
        exact Code.wp_mono (fun e' a' w' hp => hp.pre p1) (h4 hρ g1 m1)
      | exit id =>
        refine ⟨.exit id, s1, t1, h1, x1, fun {w0 φ a w} hρ hg hmm => wp_seq (Code.wp_mono (fun e' a' w' hp => ?_) (h2 hρ hg hmm))⟩
        obtain ⟨rfl, hp⟩ := hp
        exact ⟨rfl, hp⟩
      | ret =>
        refine ⟨.ret, s1, t1, h1, x1, fun {w0 φ a w} hρ hg hmm => wp_seq (Code.wp_mono (fun e' a' w' hp => ?_) (h2 hρ hg hmm))⟩
        obtain ⟨rfl, hp⟩ := hp
        exact ⟨rfl, hp⟩
    | cond c x y =>
      simp only [codeOk, Bool.and_eq_true] at hok
      obtain ⟨v, h1, hv⟩ := opd_inv (show opd t c (cndK (ev P pl sm N n) f sz x y s t κ) ∈ D from hD)
      obtain ⟨b, rfl, h1⟩ := boolV_inv (show boolV v (nat_lit 180) (fun c => decK s.pc c (cndB (ev P pl sm N n) f sz x y s t κ)) ∈ D from h1)
      · obtain ⟨d, pc', h2, x1, hd⟩ := decK_inv h1
        have h2 : Bool.rec (motive := fun _ => R) (ev P pl sm N n f sz y ⟨s.hp, s.nx, pc'⟩ t κ) (ev P pl sm N n f sz x ⟨s.hp, s.nx, pc'⟩ t κ) d ∈ D := by cases s; exact h2
        rcases brec_cases h2 with ⟨rfl, h3⟩ | ⟨rfl, h3⟩
        · obtain ⟨e, s1, t1, h4, x2, h5⟩ := ih hok.1 h3
          refine ⟨e, s1, t1, h4, x1.trans x2, fun {w0 φ a w} hρ hg hmm => ?_⟩
          have hb := hv hg
          simp only [conc, Option.some.injEq, hd ρ (hρ.of_ext x2)] at hb
          exact wp_cond_true hb.symm (h5 hρ hg (hmm.pc pc'))
        · obtain ⟨e, s1, t1, h4, x2, h5⟩ := ih hok.2 h3
          refine ⟨e, s1, t1, h4, x1.trans x2, fun {w0 φ a w} hρ hg hmm => ?_⟩
          have hb := hv hg
          simp only [conc, Option.some.injEq, hd ρ (hρ.of_ext x2)] at hb
          exact wp_cond_false hb.symm (h5 hρ hg (hmm.pc pc'))
    | block id x =>
      obtain ⟨e, s1, t1, h1, x1, h2⟩ := ih (show codeOk pl f x = true from hok) (show ev P pl sm N n f sz x s t (blkK id κ) ∈ D from hD)
      cases e with
      | normal =>
        refine ⟨.normal, s1, t1, h1, x1, fun {w0 φ a w} hρ hg hmm => wp_block (Code.wp_mono (fun e' a' w' hp => ?_) (h2 hρ hg hmm))⟩
        obtain ⟨rfl, hp⟩ := hp
        exact ⟨rfl, hp⟩
      | exit j =>
        have h1 : Bool.rec (motive := fun _ => R) (κ (.exit j) s1 t1) (κ .normal s1 t1) (Nat.beq j id) ∈ D := h1
        rcases brec_cases h1 with ⟨hj, h3⟩ | ⟨hj, h3⟩
        · rw [natBeq] at hj
          have hj := of_decide_eq_true hj
          subst hj
          refine ⟨.normal, s1, t1, h3, x1, fun {w0 φ a w} hρ hg hmm => wp_block (Code.wp_mono (fun e' a' w' hp => ?_) (h2 hρ hg hmm))⟩
          obtain ⟨rfl, hp⟩ := hp
          simp only [exOf, Exit.inBlock, if_true]
          exact ⟨rfl, hp⟩
        · rw [natBeq] at hj
          have hj := of_decide_eq_false hj
          refine ⟨.exit j, s1, t1, h3, x1, fun {w0 φ a w} hρ hg hmm => wp_block (Code.wp_mono (fun e' a' w' hp => ?_) (h2 hρ hg hmm))⟩
          obtain ⟨rfl, hp⟩ := hp
          simp only [exOf, Exit.inBlock, if_neg hj]
          exact ⟨rfl, hp⟩
      | ret =>
        refine ⟨.ret, s1, t1, h1, x1, fun {w0 φ a w} hρ hg hmm => wp_block (Code.wp_mono (fun e' a' w' hp => ?_) (h2 hρ hg hmm))⟩
        obtain ⟨rfl, hp⟩ := hp
        exact ⟨rfl, hp⟩
    | loop x =>
      have hok' : codeOk pl f x = true := hok
      have out : ∀ {w0 : Base} {φ : List Pl} {e : Ex} {s' : St} {t' : Ts} (a : Act) (w : World), ¬ Post P ρ w0 φ sz e s' t' .outgrown a w := fun {w0 φ e s' t'} a w hp => by cases e <;> cases hp.1
      have go : ∀ {w0 : Base} {φ : List Pl} {e : Ex} {s' : St} {t' : Ts} (l : Nat) (a : Act) (w : World), ¬ Post P ρ w0 φ sz e s' t' (.goto l) a w := fun {w0 φ e s' t'} l a w hp => by cases e <;> cases hp.1
      have rounds : ∀ (m : Nat) {s : St} {t : Ts}, loopN pl.ac pl.ad (ev P pl sm N n) f sz x κ m s t ∈ D → ∃ e s' t', κ e s' t' ∈ D ∧ PcExt s.pc s'.pc ∧ ∀ {w0 φ a w}, Holds ρ s'.pc → GA φ ρ t sz a → Gm P ρ w0 φ s w → (Code.loop x).wp P (Post P ρ w0 φ sz e s' t') a w := by
        intro m
        induction m with
        | zero => intro s t hD; cases hD
        | succ m ihm =>
          intro s t hD
          have hD : acdK (ev P pl sm N n) f sz x s t (loopN pl.ac pl.ad (ev P pl sm N n) f sz x κ m) (accK (ev P pl sm N n) f sz x s t (loopN pl.ac pl.ad (ev P pl sm N n) f sz x κ m) (ev P pl sm N n f sz x s t (loopK (loopN pl.ac pl.ad (ev P pl sm N n) f sz x κ m) κ)) pl.ac) pl.ad ∈ D := hD
          rcases acdK_sound (ρ := ρ) ihA hok' hD with hD | ⟨s1, t1, h1, hpc, h2⟩
          rotate_left
          · obtain ⟨e, s', t', h3, x3, h4⟩ := ihm h1
            rw [hpc] at x3
            exact ⟨e, s', t', h3, x3, fun {w0 φ a w} hρ hg hmm => h2 (hρ.of_ext x3) hg hmm fun g1 m1 => h4 hρ g1 m1⟩
          rcases accK_sound (ρ := ρ) ihA hok' hP.ac hD with hD | ⟨t1, h1, h2⟩
          rotate_left
          · obtain ⟨e, s', t', h3, x3, h4⟩ := ihm h1
            exact ⟨e, s', t', h3, x3, fun {w0 φ a w} hρ hg hmm => h2 (hρ.of_ext x3) hg hmm fun g1 m1 => h4 hρ g1 m1⟩
          obtain ⟨e, s1, t1, h1, x1, h2⟩ := ih hok' (show ev P pl sm N n f sz x s t (loopK (loopN pl.ac pl.ad (ev P pl sm N n) f sz x κ m) κ) ∈ D from hD)
          cases e with
          | normal =>
            obtain ⟨e2, s2, t2, h3, x2, h4⟩ := ihm (show loopN pl.ac pl.ad (ev P pl sm N n) f sz x κ m s1 t1 ∈ D from h1)
            refine ⟨e2, s2, t2, h3, x1.trans x2, fun {w0 φ a w} hρ hg hmm => wp_loop_unroll out go (Code.wp_mono (fun e' a' w' hp => ?_) (h2 (hρ.of_ext x2) hg hmm))⟩
            obtain ⟨rfl, φ', p1, g1, m1⟩ := hp
            exact Code.wp_mono (fun e' a' w' hp => hp.pre p1) (h4 hρ g1 m1)
          | exit id =>
            refine ⟨.exit id, s1, t1, h1, x1, fun {w0 φ a w} hρ hg hmm => wp_loop_unroll out go (Code.wp_mono (fun e' a' w' hp => ?_) (h2 hρ hg hmm))⟩
            obtain ⟨rfl, hp⟩ := hp
            exact ⟨rfl, hp⟩
          | ret =>
            refine ⟨.ret, s1, t1, h1, x1, fun {w0 φ a w} hρ hg hmm => wp_loop_unroll out go (Code.wp_mono (fun e' a' w' hp => ?_) (h2 hρ hg hmm))⟩
            obtain ⟨rfl, hp⟩ := hp
            exact ⟨rfl, hp⟩
      exact rounds N (show loopN pl.ac pl.ad (ev P pl sm N n) f sz x κ N s t ∈ D from hD)
    | scope x =>
      obtain ⟨e, s1, t1, h1, x1, h2⟩ := ih (show codeOk pl f x = true from hok) (show ev P pl sm N n f sz x s t κ ∈ D from hD)
      refine ⟨e, s1, t1, h1, x1, fun {w0 φ a w} hρ hg hmm => wp_scope_straight (Code.wp_mono (fun e' a' w' hp => ?_) (h2 hρ hg hmm))⟩
      obtain ⟨rfl, hp⟩ := hp
      cases e <;> exact ⟨rfl, hp⟩
    | rangeFunc a b c d => cases hD
    | goto l => cases hD
    | refuse w => cases hD

/-- nothing stands yet -/
theorem Gm.start (w : World) (hfo : FoOk ρ w) (pcs : List (SB × Bool)) (smp : List (List Int)) (rg : List (Int × Int)) : Gm P ρ ⟨w, []⟩ [] (s0 pcs smp rg) w :=
  ⟨⟨fun id o h => by simp [s0, Tr.get_nil] at h, fun i j o o' p q h => by simp [s0, Tr.get_nil] at h⟩, rfl, fun id o h => by simp [s0, Tr.get_nil] at h, fun id p h => by simp at h, .refl _ _, (fun x hx => by cases hx), hfo⟩

/-- the end of a run: what comes out, and what was decided -/
def finK (v : AV) (s : St) : R := .done v ⟨.nil, nat_lit 0, ⟨s.pc.l, [], []⟩⟩
/-- A WHOLE CALL. -/
theorem run_sound (hm : P.follows .mixedOrders = true) (hP : PlansOk P pl) (hS : SumsOk P sm) {n : Nat} {f : FuncId} {args : List AV} {pcs : List (SB × Bool)} {smp : List (List Int)} {rg : List (Int × Int)} {D : Dn} (h : evCall P pl sm n f args (s0 pcs smp rg) finK ∈ D)
    {xs : List Value} (ρ : Nat → Int) (hxs : concL [] ρ args = some xs) (hρ : ∀ x ∈ D.S.pc.l, x.1.ev ρ = x.2) (hrg : RgOk ρ rg) (w : World) (hfo : FoOk ρ w) :
    Calls P f xs.toArray w fun e w' => ∃ φ x, e = .returned x ∧ conc φ ρ D.V = some x ∧ Kp [] w w' := by
  obtain ⟨v, s', h1, hx, h2⟩ := callG_enters (ρ := ρ) hP (ev_sound hm hP hS 100000 n ρ) h
  obtain ⟨rfl, e2⟩ : v = D.V ∧ (⟨.nil, 0, ⟨s'.pc.l, [], []⟩⟩ : St) = D.S := h1
  have hρ' : Holds ρ s'.pc := ⟨by rw [← e2] at hρ; exact hρ, by rw [hx.rg]; exact hrg⟩
  refine (h2 hρ' hxs (Gm.start w hfo pcs smp rg)).2.mono fun e w' ⟨x, he, φ', _, hc, hg⟩ => ⟨φ', x, he, hc, hg.kp⟩
/-- A call whose reckoning is told in other words is known ahead. -/
theorem known_of (hm : P.follows .mixedOrders = true) (hP : PlansOk P pl) (hS : SumsOk P sm) {f : FuncId} {args : List AV} {s : St} {κ : AV → St → R} {N n : Nat} {r : R} {D : Dn} (he : callG P (ev P pl sm N n) f args s κ = r) (hr : r ∈ D) : ∃ v s', κ v s' ∈ D ∧ PcExt s.pc s'.pc ∧ CallDoes P ρ f args s v s' := by
  obtain ⟨v, s', h1, hx, h2⟩ := callG_sound (ρ := ρ) hP (ev_sound hm hP hS N n ρ) (show callG P (ev P pl sm N n) f args s κ ∈ D by rw [he]; exact hr)
  exact ⟨v, s', h1, hx, fun hρ hxs hmm => h2 hρ hxs hmm⟩
end

end Go.Proofs.YticednpolhnneaaGreat
