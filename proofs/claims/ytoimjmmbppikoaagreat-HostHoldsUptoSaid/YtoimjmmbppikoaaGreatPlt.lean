/-
  A region that draws its order, by a tree of plans: where one of two may come up, both ways are walked; all end in the same state, and go on alike.
-/
import Derived.Test.YtoimjmmbppikoaaGreatInv
set_option linter.unusedVariables false
set_option linter.unusedSimpArgs false
namespace Go.Proofs.YtoimjmmbppikoaaGreat
open Go

/-- a plan; or a block that is quiet, then one of two -/
inductive PlT where
  | fin (p : Plan)
  | br (b : List Nat) (c : Nat) (kc : List Nat) (f : Nat) (kf : List Nat) (x y : PlT)
/-- a plan with at most one effect behind a block; behind it, those that have come and may still come are done again -/
def planR (ops : Array Oper) (tg : Nat → Bool) (pd : Nat → List Nat) : Plan → Array Bool → Bool
  | [], _ => false
  | [(b, [], _)], listed => blockB ops tg pd b listed && (Region.ready .any ops (markAll b listed)).isEmpty
  | (b, [], _) :: x :: rest, listed => blockB ops tg pd b listed && planR ops tg pd (x :: rest) (markAll b listed)
  | (b, [i], k) :: rest, listed =>
    let l1 := markAll b listed
    blockB ops tg pd b listed && (!tg i && decide (Region.ready .any ops l1 = [i]) && (ops[i]?).isSome && restB ops tg pd i l1 k) && planR ops tg pd rest (l1.setIfInBounds i true)
  | (_, _ :: _ :: _, _) :: _, _ => false
def planTN (tl : Plan) : PlT → Nat
  | .fin p => planN (p ++ tl)
  | .br b _ _ _ _ x _ => b.length + (planTN tl x + 1)
def planTB (ops : Array Oper) (tg : Nat → Bool) (pd : Nat → List Nat) (tl : Plan) : PlT → Array Bool → Bool
  | .fin p, l => planR ops tg pd (p ++ tl) l
  | .br b c kc f kf x y, listed =>
    let l1 := markAll b listed
    blockB ops tg pd b listed && (!tg c && !tg f && (Region.ready .any ops l1).all (fun i => i == c || i == f) && !(Region.ready .any ops l1).isEmpty && (ops[c]?).isSome && (ops[f]?).isSome) &&
      (restB ops tg pd c l1 kc && restB ops tg pd f l1 kf) && decide (planTN tl x = planTN tl y) && planTB ops tg pd tl x (l1.setIfInBounds c true) && planTB ops tg pd tl y (l1.setIfInBounds f true)
def mixT (P : Program) (ops : Array Oper) (Q : Exit → Act → World → Prop) (tl : Plan) : PlT → Act → World → Prop
  | .fin p, a, w => mixWP P ops Q (p ++ tl) a w
  | .br b c kc f kf x y, a, w => wpQuiet P ops (Dr w) (fun a' => ∀ n,
      wpList P ops (Exit.then (fun a2 w2 => AgainAll P ops a2 w2 (pick ops kc) ∧ mixT P ops Q tl x a2 w2) Q) (pick ops [c]) a' (w.drewN n)
      ∧ wpList P ops (Exit.then (fun a2 w2 => AgainAll P ops a2 w2 (pick ops kf) ∧ mixT P ops Q tl y a2 w2) Q) (pick ops [f]) a' (w.drewN n)) (pick ops b) a

section
variable {P : Program} {ops : Array Oper} {Q : Exit → Act → World → Prop}
theorem planR_M {tg : Nat → Bool} {pd : Nat → List Nat} (hsel : Region.noSelect ops = true) (hQ : ∀ c a a' w, Q (.panic c) a w → Q (.panic c) a' w) : ∀ (pl : Plan) (listed : Array Bool) (a : Act) (w : World),
    planR ops tg pd pl listed = true → Closed ops listed → mixWP P ops Q pl a w → wpAnyM P ops Q tg pd (planN pl) listed a (Dr w)
  | [], listed, a, w, hB, hcl, h => by simp [planR] at hB
  | [(b, [], k)], listed, a, w, hB, hcl, h => by
    simp only [planR, Bool.and_eq_true, List.isEmpty_iff] at hB
    show wpAnyM P ops Q tg pd (b.length + 0) listed a (Dr w)
    refine wpAnyM_block hsel hQ ⟨w, Dr.self w⟩ b listed a hB.1 hcl (fun a' hc' hn => ?_) h
    refine ⟨hB.2, fun w' hw' => ?_⟩
    obtain ⟨n, rfl⟩ := hw'
    exact (hn n : _ ∧ _).2
  | (b, [], k) :: x :: rest, listed, a, w, hB, hcl, h => by
    simp only [planR, Bool.and_eq_true] at hB
    have hpn : planN ((b, [], k) :: x :: rest) = b.length + planN (x :: rest) := by simp [planN]
    rw [hpn]
    refine wpAnyM_block hsel hQ ⟨w, Dr.self w⟩ b listed a hB.1 hcl (fun a' hc' hn => ?_) h
    exact planR_M hsel hQ (x :: rest) _ a' w hB.2 hc' (hn 0 : _ ∧ _).2
  | (b, [i], k) :: rest, listed, a, w, hB, hcl, h => by
    simp only [planR, Bool.and_eq_true, Bool.not_eq_true', decide_eq_true_eq] at hB
    obtain ⟨⟨hb, ⟨⟨htf, hrd⟩, hfs⟩, hrk⟩, hE⟩ := hB
    obtain ⟨hfk, hrk⟩ := restB_spec hrk
    obtain ⟨of, hof⟩ := Option.isSome_iff_exists.1 hfs
    have hpn : planN ((b, [i], k) :: rest) = b.length + (planN rest + 1) := by simp [planN]; omega
    rw [hpn]
    refine wpAnyM_block hsel hQ ⟨w, Dr.self w⟩ b listed a hb hcl (fun a' hc' hn => ?_) h
    refine ⟨fun h0 => absurd (hrd ▸ h0) (by simp), fun j hj => ?_⟩
    obtain rfl : j = i := by rw [hrd] at hj; simpa using hj
    have hir : j ∈ Region.ready .any ops (markAll b listed) := by rw [hrd]; simp
    rw [htf]
    simp only [Bool.false_eq_true, if_false]
    rintro w' ⟨n, rfl⟩
    refine wpOp_mono (fun a2 w2 hg => ?_) (wpOp_of_list hof (hn n))
    refine ⟨Dr w2, Dr.self w2, fun x hx hl hm o ho => againAll_spec k hfk hg.1 x (hrk x hx hl hm) o ho, ?_⟩
    exact planR_M hsel hQ rest _ a2 w2 hE (hc'.set hir) hg.2
  | (b, i :: j :: e, k) :: rest, listed, a, w, hB, hcl, h => by simp [planR] at hB
theorem planTB_M {tg : Nat → Bool} {pd : Nat → List Nat} {tl : Plan} (hsel : Region.noSelect ops = true) (hQ : ∀ c a a' w, Q (.panic c) a w → Q (.panic c) a' w) : ∀ (T : PlT) (listed : Array Bool) (a : Act) (w : World),
    planTB ops tg pd tl T listed = true → Closed ops listed → mixT P ops Q tl T a w → wpAnyM P ops Q tg pd (planTN tl T) listed a (Dr w)
  | .fin p, listed, a, w, hB, hcl, h => planR_M hsel hQ _ listed a w hB hcl h
  | .br b c kc f kf x y, listed, a, w, hB, hcl, h => by
    simp only [planTB, Bool.and_eq_true, Bool.not_eq_true', decide_eq_true_eq] at hB
    obtain ⟨⟨⟨⟨⟨hb, ⟨⟨⟨⟨htc, htf⟩, hall⟩, hne⟩, hcs⟩, hfs⟩, hkc, hkf⟩, hN⟩, hX⟩, hY⟩ := hB
    obtain ⟨hfr, hkc⟩ := restB_spec hkc
    obtain ⟨hfr2, hkf⟩ := restB_spec hkf
    obtain ⟨oc, hoc⟩ := Option.isSome_iff_exists.1 hcs
    obtain ⟨of, hof⟩ := Option.isSome_iff_exists.1 hfs
    show wpAnyM P ops Q tg pd (b.length + (planTN tl x + 1)) listed a (Dr w)
    refine wpAnyM_block hsel hQ ⟨w, Dr.self w⟩ b listed a hb hcl (fun a' hc' hn => ?_) h
    refine ⟨fun h0 => (by rw [h0] at hne; cases hne), fun j hj => ?_⟩
    have hjc := List.all_eq_true.1 hall j hj
    simp only [Bool.or_eq_true, beq_iff_eq] at hjc
    by_cases hjf : j = c
    · subst hjf
      rw [htc]
      simp only [Bool.false_eq_true, if_false]
      rintro w' ⟨n, rfl⟩
      refine wpOp_mono (fun a2 w2 hg => ?_) (wpOp_of_list hoc (hn n).1)
      refine ⟨Dr w2, Dr.self w2, fun x hx hl hm o ho => againAll_spec kc hfr hg.1 x (hkc x hx hl hm) o ho, ?_⟩
      exact planTB_M hsel hQ x _ a2 w2 hX (hc'.set hj) hg.2
    · obtain rfl : j = f := hjc.resolve_left hjf
      rw [htf]
      simp only [Bool.false_eq_true, if_false]
      rintro w' ⟨n, rfl⟩
      refine wpOp_mono (fun a2 w2 hg => ?_) (wpOp_of_list hof (hn n).2)
      refine ⟨Dr w2, Dr.self w2, fun x hx hl hm o ho => againAll_spec kf hfr2 hg.1 x (hkf x hx hl hm) o ho, ?_⟩
      rw [hN]
      exact planTB_M hsel hQ y _ a2 w2 hY (hc'.set hj) hg.2
/-- A REGION THAT DRAWS ITS ORDER, by a tree of plans. -/
theorem wp_region_T {id : Nat} {a : Act} {w : World} {tg : Nat → Bool} {pd : Nat → List Nat} {tl : Plan} {T : PlT} (hm : P.follows .mixedOrders = true) (hB : (Region.noSelect ops && (planTB ops tg pd tl T (Array.replicate ops.size false) && decide (planTN tl T = ops.size))) = true)
    (h : mixT P ops (NoPanic Q) tl T a w) : (Code.region id ops true).wp P Q a w := by
  simp only [Bool.and_eq_true, decide_eq_true_eq] at hB
  obtain ⟨hs, hp, hn⟩ := hB
  refine wp_region_noPanic (wp_region_any hm (wpAny_of_M (tag := tg) (pend := pd) _ _ _ (Dr w) _ ⟨1, rfl⟩ ?_))
  rw [← hn]
  exact planTB_M hs (fun c a a' w h => (h : False).elim) T _ a _ (by rw [hn]; exact hp) (closed_none _) h
end

/-! states told by the reckoning itself -/
noncomputable section
def encE (s : St) (t : Ts) : R := .done undefA ⟨.node (some (.cells (nat_lit 0) t none (nat_lit 0) false)) s.hp .nil, s.nx, s.pc⟩
def decE (r : R) : Option (St × Ts) := match r with
  | .done _ ⟨.node (some (.cells _ t _ _ _)) h _, nx, pc⟩ => match pc.l with
    | [] => some (⟨h, nx, pc⟩, t)
    | _ => none
  | _ => none
end
theorem decE_mem {r : R} {x : St × Ts} (h : decE r = some x) (ρ : Nat → Int) : ∃ D : Dn, D.ρ = ρ ∧ r ∈ D ∧ x.1.pc.l = [] ∧ ∀ s t, encE s t ∈ D → (s, t) = x := by
  unfold decE at h
  split at h
  · rename_i v i t d T b hp z nx pc
    split at h
    · rename_i hl
      cases h
      refine ⟨⟨ρ, v, ⟨.node (some (.cells i t d T b)) hp z, nx, pc⟩⟩, rfl, ⟨rfl, rfl⟩, hl, fun s t' hD => ?_⟩
      have hD : undefA = v ∧ (⟨.node (some (.cells (nat_lit 0) t' none (nat_lit 0) false)) s.hp .nil, s.nx, s.pc⟩ : St) = ⟨.node (some (.cells i t d T b)) hp z, nx, pc⟩ := hD
      have h2 := hD.2
      cases s
      simp only [St.mk.injEq, Tr.node.injEq, Option.some.injEq, AObj.cells.injEq] at h2
      obtain ⟨⟨⟨_, rfl, _⟩, rfl, _⟩, rfl, rfl⟩ := h2
      rfl
    · cases h
  · cases h
section
variable {P : Program} {ρ : Nat → Int} {D : Dn}
theorem evMix_soundA {ops : Array Oper} {call : CallT} (hc : CallSound P ρ call) {sz : Nat} {tl : Plan} : ∀ {p : Plan} {s : St} {t : Ts} {κ : RK}, evMix P ops call sz p s t κ ∈ D → ∃ s' t', κ s' t' ∈ D ∧ PcExt s.pc s'.pc ∧ ∀ {w0 φ a w}, Holds ρ s'.pc → GA φ ρ t sz a → Gm P ρ w0 φ s w →
    ∀ (Q : Exit → Act → World → Prop), (∀ φ' a' w', φ <+: φ' → GA φ' ρ t' sz a' → Gm P ρ w0 φ' s' w' → mixWP P ops Q tl a' w') → mixWP P ops Q (p ++ tl) a w
  | [], s, t, κ, hD => ⟨s, t, hD, .refl _, fun {w0 φ a w} _ hg hm Q hQ => hQ φ a w (List.prefix_refl _) hg hm⟩
  | (b, e, k) :: rest, s, t, κ, hD => by
    have hD : evPart P ops call sz (b, e, k) s t (fun s t => evMix P ops call sz rest s t κ) ∈ D := hD
    unfold evPart at hD
    have hD : evQs P ops sz s.hp (pick ops b) .no t s.pc (fun t pc => evOps P ops call sz (pick ops e) .no ⟨s.hp, s.nx, pc⟩ t (agnK P ops k fun s t => evMix P ops call sz rest s t κ)) ∈ D := by cases s; exact hD
    obtain ⟨t1, pc1, h1, x1, _, q1⟩ := evQs_sound (ρ := ρ) (m := .no) trivial hD
    obtain ⟨s2, t2, h2, x2, _, q2⟩ := evOps_sound hc (m := .no) trivial h1
    unfold agnK at h2
    have h2 : again P ops s2.hp t2 (pick ops k) .no s2.pc (fun pc => evMix P ops call sz rest ⟨s2.hp, s2.nx, pc⟩ t2 κ) ∈ D := by cases s2; exact h2
    obtain ⟨pc3, h3, x3, q3⟩ := again_sound (ρ := ρ) (m := .no) trivial h2
    obtain ⟨s4, t4, h4, x4, q4⟩ := evMix_soundA hc h3
    refine ⟨s4, t4, h4, x1.trans (x2.trans (x3.trans x4)), fun {w0 φ a w} hρ hg hm Q hQ => ?_⟩
    show mixWP P ops Q ((b, e, k) :: (rest ++ tl)) a w
    unfold mixWP
    refine q1 (hρ.of_ext (x2.trans (x3.trans x4))) hg (Dr w) (fun w' ⟨n, hn⟩ => by rw [hn]; exact (hm.drewN n).hp) ⟨w, Dr.self w⟩ _ fun a1 hg1 n => ?_
    refine q2 (hρ.of_ext (x3.trans x4)) hg1 ((hm.drewN n).pc pc1) _ fun φ2 a2 w2 p2 hg2 hm2 => ?_
    refine ⟨q3 (hρ.of_ext x4) hg2 (fun w' => ∃ n, w' = w2.drewN n) (fun w' ⟨n, hn⟩ => by rw [hn]; exact (hm2.drewN n).hp) ⟨w2, 0, rfl⟩, ?_⟩
    exact q4 hρ hg2 (hm2.pc pc3) Q fun φ3 a3 w3 p3 hg3 hm3 => hQ φ3 a3 w3 (p2.trans p3) hg3 hm3
end

noncomputable section
/-- one with an effect, and what may still come behind it -/
def oneR (P : Program) (ops : Array Oper) (call : CallT) (sz c : Nat) (k : List Nat) (x : St × Ts) : Option (St × Ts) := decE (evOps P ops call sz (pick ops [c]) .no x.1 x.2 (agnK P ops k encE))
def blkR (P : Program) (ops : Array Oper) (sz : Nat) (b : List Nat) (x : St × Ts) : Option (St × Ts) := decE (evQs P ops sz x.1.hp (pick ops b) .no x.2 x.1.pc (fun t pc => encE ⟨x.1.hp, x.1.nx, pc⟩ t))
/-- the states that it ends in -/
def leavesT (P : Program) (ops : Array Oper) (call : CallT) (sz : Nat) : PlT → St × Ts → Option (List (St × Ts))
  | .fin p, x => (decE (evMix P ops call sz p x.1 x.2 encE)).map fun y => [y]
  | .br b c kc f kf x y, z => (blkR P ops sz b z).bind fun z0 => (oneR P ops call sz c kc z0).bind fun z1 => (oneR P ops call sz f kf z0).bind fun z2 => (leavesT P ops call sz x z1).bind fun l1 => (leavesT P ops call sz y z2).map fun l2 => l1 ++ l2
end
section
variable {P : Program} {ρ : Nat → Int}
theorem Holds.nil {pc : PC} (hl : pc.l = []) (hr : RgOk ρ pc.rg) : Holds ρ pc := ⟨(by rw [hl]; intro x hx; cases hx), hr⟩
theorem oneR_sound {ops : Array Oper} {call : CallT} (hc : CallSound P ρ call) {sz c : Nat} {k : List Nat} {x y : St × Ts} (h : oneR P ops call sz c k x = some y) (hr : RgOk ρ x.1.pc.rg) : y.1.pc.l = [] ∧ RgOk ρ y.1.pc.rg ∧ ∀ {w0 φ a w}, GA φ ρ x.2 sz a → Gm P ρ w0 φ x.1 w →
    ∀ (X : Act → World → Prop) (Q : Exit → Act → World → Prop), (∀ φ' a' w', φ <+: φ' → GA φ' ρ y.2 sz a' → Gm P ρ w0 φ' y.1 w' → X a' w') → wpList P ops (Exit.then (fun a2 w2 => AgainAll P ops a2 w2 (pick ops k) ∧ X a2 w2) Q) (pick ops [c]) a w := by
  obtain ⟨D, _, hD, hl, hu⟩ := decE_mem h ρ
  obtain ⟨s2, t2, h2, x2, _, q2⟩ := evOps_sound hc (m := .no) trivial hD
  unfold agnK at h2
  have h2 : again P ops s2.hp t2 (pick ops k) .no s2.pc (fun pc => encE ⟨s2.hp, s2.nx, pc⟩ t2) ∈ D := by cases s2; exact h2
  obtain ⟨pc3, h3, x3, q3⟩ := again_sound (ρ := ρ) (m := .no) trivial h2
  have e := hu _ _ h3
  subst e
  have hr' : RgOk ρ pc3.rg := by rw [x3.rg, x2.rg]; exact hr
  have hH : Holds ρ pc3 := .nil hl hr'
  refine ⟨hl, hr', fun {w0 φ a w} hg hm X Q hX => ?_⟩
  refine q2 (hH.of_ext x3) hg hm _ fun φ2 a2 w2 p2 hg2 hm2 => ?_
  exact ⟨q3 hH hg2 (fun w' => ∃ n, w' = w2.drewN n) (fun w' ⟨n, hn⟩ => by rw [hn]; exact (hm2.drewN n).hp) ⟨w2, 0, rfl⟩, hX φ2 a2 w2 p2 hg2 (hm2.pc pc3)⟩
theorem leavesT_sound {ops : Array Oper} {call : CallT} (hc : CallSound P ρ call) {sz : Nat} {tl : Plan} {w0 : Base} {φ0 : List Pl} {Q : Exit → Act → World → Prop} : ∀ {T : PlT} {x : St × Ts} {L : List (St × Ts)}, leavesT P ops call sz T x = some L → RgOk ρ x.1.pc.rg →
    (∀ y ∈ L, RgOk ρ y.1.pc.rg → y.1.pc.l = [] → ∀ φ' a' w', φ0 <+: φ' → GA φ' ρ y.2 sz a' → Gm P ρ w0 φ' y.1 w' → mixWP P ops Q tl a' w') → ∀ {φ a w}, φ0 <+: φ → GA φ ρ x.2 sz a → Gm P ρ w0 φ x.1 w → mixT P ops Q tl T a w
  | .fin p, x, L, h, hr, hL, φ, a, w, h0, hg, hm => by
    simp only [leavesT, Option.map_eq_some_iff] at h
    obtain ⟨y, h1, rfl⟩ := h
    obtain ⟨D, _, hD, hl, hu⟩ := decE_mem h1 ρ
    obtain ⟨s2, t2, h2, x2, q2⟩ := evMix_soundA (tl := tl) hc hD
    have e := hu _ _ h2
    subst e
    have hr' : RgOk ρ s2.pc.rg := by rw [x2.rg]; exact hr
    exact q2 (.nil hl hr') hg hm Q fun φ' a' w' p' hg' hm' => hL _ (by simp) hr' hl φ' a' w' (h0.trans p') hg' hm'
  | .br b c kc f kf x y, z, L, h, hr, hL, φ, a, w, h0, hg, hm => by
    simp only [leavesT, Option.bind_eq_some_iff, Option.map_eq_some_iff] at h
    obtain ⟨z0, e0, z1, e1, z2, e2, l1, e3, l2, e4, rfl⟩ := h
    obtain ⟨D, _, hD, hl, hu⟩ := decE_mem e0 ρ
    obtain ⟨t1, pc1, h1, x1, _, q1⟩ := evQs_sound (ρ := ρ) (m := .no) trivial hD
    have e := hu _ _ h1
    subst e
    have hr' : RgOk ρ pc1.rg := by rw [x1.rg]; exact hr
    obtain ⟨hl1, hr1, s1⟩ := oneR_sound hc e1 hr'
    obtain ⟨hl2, hr2, s2⟩ := oneR_sound hc e2 hr'
    unfold mixT
    refine q1 (.nil hl hr') hg (Dr w) (fun w' ⟨n, hn⟩ => by rw [hn]; exact (hm.drewN n).hp) ⟨w, Dr.self w⟩ _ fun a1 hg1 n => ⟨?_, ?_⟩
    · exact s1 hg1 ((hm.drewN n).pc pc1) _ _ fun φ' a' w' p' hg' hm' => leavesT_sound hc e3 hr1 (fun y hy => hL y (List.mem_append_left _ hy)) (h0.trans p') hg' hm'
    · exact s2 hg1 ((hm.drewN n).pc pc1) _ _ fun φ' a' w' p' hg' hm' => leavesT_sound hc e4 hr2 (fun y hy => hL y (List.mem_append_right _ hy)) (h0.trans p') hg' hm'
end

/-! the ends of a run -/
noncomputable section
/-- each end: what it gives, what was decided on the way there; none where it fails -/
def endsR (r : R) : List (SB × Bool) → Option (List (AV × List (SB × Bool))) := R.rec (motive := fun _ => List (SB × Bool) → Option (List (AV × List (SB × Bool)))) (fun v s acc => Bool.rec none (some [(v, acc)]) (s.pc.l.all fun x => acc.any fun y => SB.beq x.1 y.1 && (x.2 == y.2))) (fun _ _ => none) (fun _ => none)
  (fun c _ _ a b acc => Option.rec none (fun la => Option.rec none (fun lb => some (la ++ lb)) (b ((c, false) :: acc))) (a ((c, true) :: acc))) r
end
theorem endsR_inv {ρ : Nat → Int} : ∀ (r : R) {acc : List (SB × Bool)} {L : List (AV × List (SB × Bool))}, endsR r acc = some L → (∀ x ∈ acc, x.1.ev ρ = x.2) → ∃ V S l, r ∈ Dn.mk ρ V S ∧ (V, l) ∈ L ∧ (∀ x ∈ l, x.1.ev ρ = x.2) ∧ ∀ x ∈ S.pc.l, x.1.ev ρ = x.2 := by
  intro r
  induction r with
  | done v s =>
    intro acc L h ha
    have h : (Bool.rec none (some [(v, acc)]) (s.pc.l.all fun x => acc.any fun y => SB.beq x.1 y.1 && (x.2 == y.2)) : Option (List (AV × List (SB × Bool)))) = some L := h
    cases hb : (s.pc.l.all fun x => acc.any fun y => SB.beq x.1 y.1 && (x.2 == y.2)) with
    | false => rw [hb] at h; cases h
    | true =>
      rw [hb] at h
      cases h
      refine ⟨v, s, acc, ⟨rfl, rfl⟩, by simp, ha, fun x hx => ?_⟩
      have := List.all_eq_true.1 hb x hx
      obtain ⟨y, hy, he⟩ := List.any_eq_true.1 this
      rw [Bool.and_eq_true, beq_iff_eq] at he
      rw [SB.beq_eq _ _ he.1, he.2]
      exact ha y hy
  | fail n => intro acc L h; cases h
  | dead => intro acc L h; cases h
  | fork c a b iha ihb =>
    intro acc L h ha
    have h : (Option.rec none (fun la => Option.rec none (fun lb => some (la ++ lb)) (endsR b ((c, false) :: acc))) (endsR a ((c, true) :: acc)) : Option (List (AV × List (SB × Bool)))) = some L := h
    cases h1 : endsR a ((c, true) :: acc) with
    | none => rw [h1] at h; cases h
    | some la =>
      cases h2 : endsR b ((c, false) :: acc) with
      | none => rw [h1, h2] at h; cases h
      | some lb =>
        rw [h1, h2] at h
        cases h
        cases hc : c.ev ρ with
        | true =>
          obtain ⟨V, S, l, e1, e2, e3, e4⟩ := iha h1 (fun x hx => by
            rcases List.mem_cons.1 hx with rfl | hx
            · exact hc
            · exact ha x hx)
          exact ⟨V, S, l, .inl ⟨hc, e1⟩, List.mem_append_left _ e2, e3, e4⟩
        | false =>
          obtain ⟨V, S, l, e1, e2, e3, e4⟩ := ihb h2 (fun x hx => by
            rcases List.mem_cons.1 hx with rfl | hx
            · exact hc
            · exact ha x hx)
          exact ⟨V, S, l, .inr ⟨hc, e1⟩, List.mem_append_right _ e2, e3, e4⟩
end Go.Proofs.YtoimjmmbppikoaaGreat
