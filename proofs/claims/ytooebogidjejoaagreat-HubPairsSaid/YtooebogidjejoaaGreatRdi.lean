/-
  Code that reads an element of the caller's outer row, at an index: what stands there is told ahead, as a form u.
-/
import Derived.Test.YtooebogidjejoaaGreatInv
set_option linter.unusedVariables false
set_option linter.unusedSimpArgs false
namespace Go.Proofs.YtooebogidjejoaaGreat
open Go

/-- where it stands, and what -/
structure RdF (ρ : Nat → Int) (I : SI) (u : AV) (b : Addr) (n c i : Nat) (v : Value) : Prop where
  adr : adrL ρ 300 = some b
  len : (ρ 304).toNat = n
  cap : (ρ 303).toNat = c
  at_ : I.ev ρ = i
  lt : i < n
  val : ∀ φ, conc φ ρ u = some v
/-- .. in the caller's world -/
def RdH (ρ : Nat → Int) (W : World) (I : SI) (u : AV) : Prop := ∃ b n c i v, RdF ρ I u b n c i v ∧ b.block < W.heap.size ∧ W.cell? (b.add i) = some v
theorem adr_block (b : Addr) (i : Nat) : (b.add i).block = b.block := by
  unfold Addr.add
  split <;> rfl
theorem cell_keeps {W w : World} (h : Kp [] W w) {b : Addr} {v : Value} (hb : b.block < W.heap.size) (hc : W.cell? b = some v) : w.cell? b = some v := by
  rw [← hc]
  simp only [World.cell?, h.block b.block hb (by simp)]
theorem RdH.here {ρ : Nat → Int} {W w : World} {I : SI} {u : AV} (h : RdH ρ W I u) (hk : Kp [] W w) : ∃ b n c i v, RdF ρ I u b n c i v ∧ w.cell? (b.add i) = some v := by
  obtain ⟨b, n, c, i, v, h1, h2, h3⟩ := h
  exact ⟨b, n, c, i, v, h1, cell_keeps hk (by rw [adr_block]; exact h2) h3⟩

noncomputable section
variable (P : Program) (I : SI) (u : AV)
def isOut (o : Option AV) : Bool := match o with
  | some (.osl p k c) => Nat.beq p (nat_lit 300) && (Nat.beq k (nat_lit 304) && Nat.beq c (nat_lit 303))
  | _ => false
def isIdx (o : Option AV) : Bool := match o with
  | some (.int .i64 e) => SI.beq e I
  | _ => false
def isRow1 (T : TypeId) : Bool := match P.underlying T with
  | some (.slice e) => match sizeA P e with
    | some z => Nat.beq z (nat_lit 1)
    | none => false
  | _ => false
def noAgg (T : TypeId) : Bool := match aggOf P T with
  | some none => true
  | _ => false
/-- an index, and what is loaded through it -/
def rdOp (sz : Nat) (t : Ts) (o1 o2 : Oper) : Bool := match o1.op, o2.op, o1.dst with
  | .indexAddr T (.tmp d1) (.tmp d2), .load T2 (.tmp d3), some d => Nat.beq d3 d && (noAgg P T2 && (isOut (t.get d1) && (isIdx I (t.get d2) && (isN (t.get d) && (Nat.blt d sz && isRow1 P T)))))
  | _, _, _ => false
variable (ops : Array Oper) (call : CallT) (sz : Nat)
def evOpsH : List Oper → St → Ts → RK → R
  | [], s, t, κ => κ s t
  | [o], s, t, κ => evOps P ops call sz [o] .no s t κ
  | o1 :: o2 :: l, s, t, κ => Bool.rec (motive := fun _ => R) (evOps P ops call sz [o1] .no s t (fun s t => evOpsH (o2 :: l) s t κ))
      (wantK ops t s.pc .no (fun _ b pc => Bool.rec (motive := fun _ => R) (putK sz t undefA (fun t => evOpsH (o2 :: l) ⟨s.hp, s.nx, pc⟩ t κ) o1.dst)
        (wantK ops t pc .no (fun _ b pc => Bool.rec (motive := fun _ => R) (.fail 951) (putK sz t u (fun t => evOpsH l ⟨s.hp, s.nx, pc⟩ t κ) o2.dst) b) o2.guard) b) o1.guard) (rdOp P I sz t o1 o2)
def evQsH (h : Tr AObj) : List Oper → Ts → PC → (Ts → PC → R) → R
  | [], t, pc, κ => κ t pc
  | [o], t, pc, κ => evQs P ops sz h [o] .no t pc κ
  | o1 :: o2 :: l, t, pc, κ => Bool.rec (motive := fun _ => R) (evQs P ops sz h [o1] .no t pc (fun t pc => evQsH h (o2 :: l) t pc κ))
      (wantK ops t pc .no (fun _ b pc => Bool.rec (motive := fun _ => R) (putK sz t undefA (fun t => evQsH h (o2 :: l) t pc κ) o1.dst)
        (wantK ops t pc .no (fun _ b pc => Bool.rec (motive := fun _ => R) (.fail 951) (putK sz t u (fun t => evQsH h l t pc κ) o2.dst) b) o2.guard) b) o1.guard) (rdOp P I sz t o1 o2)
def evMixH : Plan → St → Ts → RK → R
  | [], s, t, κ => κ s t
  | (b, e, k) :: rest, s, t, κ => evQsH P I u ops sz s.hp (pick ops b) t s.pc (fun t pc => evOps P ops call sz (pick ops e) .no ⟨s.hp, s.nx, pc⟩ t (agnK P ops k (fun s t => evMixH rest s t κ)))
end
noncomputable section
variable (P : Program) (pl : Plans) (plH : Nat → Option Plan) (I : SI) (u : AV) (call : CallT) (ih : EvT) (f sz : Nat)
def evC : Code → St → Ts → K → R
  | .seq a b, s, t, κ => evC a s t (fun e s t => Ex.rec (motive := fun _ => R) (evC b s t κ) (fun i => κ (.exit i) s t) (κ .ret s t) e)
  | .cond c a b, s, t, κ => opd t c (fun v => boolV v (nat_lit 180) fun c => decK s.pc c fun d pc => Bool.rec (motive := fun _ => R) (evC b ⟨s.hp, s.nx, pc⟩ t κ) (evC a ⟨s.hp, s.nx, pc⟩ t κ) d)
  | .block id x, s, t, κ => evC x s t (blkK id κ)
  | .region id ops draw, s, t, κ => Bool.rec (motive := fun _ => R) (evOpsH P I u ops call sz ops.toList s t (fun s t => κ .normal s t))
      (Option.rec (motive := fun _ => R) (ih f sz (.region id ops draw) s t κ) (fun p => evMixH P I u ops call sz p s t (fun s t => κ .normal s t)) (plH id)) draw
  | c, s, t, κ => ih f sz c s t κ
end
/-- its plans serve -/
def okC (pl : Plans) (plH : Nat → Option Plan) (f : FuncId) : Code → Bool
  | .seq a b => okC pl plH f a && okC pl plH f b
  | .cond _ a b => okC pl plH f a && okC pl plH f b
  | .block _ x => okC pl plH f x
  | .region id ops draw => !draw || (match plH id with | some p => mixOk ops p | none => codeOk pl f (.region id ops draw))
  | c => codeOk pl f c

section
variable {P : Program} {ρ : Nat → Int} {I : SI} {u : AV}
theorem GA.skip {φ : List Pl} {t : Ts} {sz : Nat} {a : Act} (h : GA φ ρ t sz a) {d : Nat} (hd : t.get d = none) {v : Value} : GA φ ρ t sz (a.put (some d) v) := by
  refine ⟨by simp [Act.put, h.size], fun e x hx => ?_, h.df⟩
  rw [h.tm e x hx]
  have hne : d ≠ e := fun q => by subst q; rw [hd] at hx; cases hx
  simp only [Act.put, Array.getD_eq_getD_getElem?]
  rw [Array.getElem?_setIfInBounds_ne hne]
/-- what the pair yields -/
theorem rdOp_runs {sz : Nat} {t : Ts} {o1 o2 : Oper} (h : rdOp P I sz t o1 o2 = true) {b : Addr} {n c i : Nat} {v : Value} (F : RdF ρ I u b n c i v) {φ : List Pl} {a : Act} (hg : GA φ ρ t sz a) :
    ∃ d, o1.dst = some d ∧ t.get d = none ∧ (∀ w, (execOp a.eval o1).run P w = .ok (.value (.pointer (some (b.add i)))) w) ∧ ∀ w, w.cell? (b.add i) = some v → (execOp (a.put (some d) (.pointer (some (b.add i)))).eval o2).run P w = .ok (.value v) w := by
  unfold rdOp at h
  split at h
  · rename_i T d1 d2 T2 d3 d hop1 hop2 hd
    simp only [Bool.and_eq_true, natBeq, natBlt, decide_eq_true_eq, Option.isNone_iff_eq_none, isN_iff] at h
    obtain ⟨rfl, hag, ho, hi, hn, hlt, hr⟩ := h
    have hag : aggOf P T2 = some none := by
      unfold noAgg at hag
      split at hag
      · assumption
      · cases hag
    refine ⟨d3, hd, hn, fun w => ?_, fun w hw => ?_⟩
    · have e1 : a.eval (.tmp d1) = .slice (some b) n c := by
        unfold isOut at ho
        split at ho
        · rename_i p k q hq
          simp only [Bool.and_eq_true, natBeq, decide_eq_true_eq] at ho
          obtain ⟨rfl, rfl, rfl⟩ := ho
          have := hg.tm d1 _ hq
          simp only [conc, F.adr, F.len, F.cap, Option.some.injEq] at this
          exact this.symm
        · cases ho
      have e2 : a.eval (.tmp d2) = .int .i64 i := by
        unfold isIdx at hi
        split at hi
        · rename_i e hq
          have := SI.beq_eq _ _ hi
          subst this
          have := hg.tm d2 _ hq
          simp only [conc, F.at_, Option.some.injEq] at this
          exact this.symm
        · cases hi
      unfold isRow1 at hr
      split at hr
      · rename_i e hu
        split at hr
        · rename_i z hz
          rw [natBeq, decide_eq_true_eq] at hr
          subst hr
          have hlt := F.lt
          unfold execOp
          simp only [hop1, e1, e2, Instr.indexAt, Sem.run_bind, run_underlying hu, Result.andThen_ok]
          simp [asIntOf, run_size hz, hlt]
        · cases hr
      · cases hr
    · have e3 : (a.put (some d3) (.pointer (some (b.add i)))).eval (.tmp d3) = .pointer (some (b.add i)) := by
        show (a.put (some d3) _).tmps.getD d3 undef = _
        have : d3 < a.tmps.size := by rw [hg.size]; exact hlt
        simp [Act.put, Array.getD_eq_getD_getElem?, this]
      unfold execOp
      simp only [hop2, e3]
      simp [Instr.loadAt, Instr.sureAddr, loadVar, Sem.run_bind, run_isAgg hag, hw]
  · cases h
theorem stepR {ops : Array Oper} {Q : Exit → Act → World → Prop} {o : Oper} {rest : List Oper} {a : Act} {w : World} {v : Value} (hg : Region.wanted o (yielded ops a.tmps) = true) (hr : (execOp a.eval o).run P w = .ok (.value v) w) (hk : wpList P ops Q rest (a.put o.dst v) w) : wpList P ops Q (o :: rest) a w := by
  unfold wpList
  rw [if_pos hg]
  refine .inl ?_
  unfold Oper.wp
  rw [hr]
  exact hk
theorem stepN {ops : Array Oper} {Q : Exit → Act → World → Prop} {o : Oper} {rest : List Oper} {a : Act} {w : World} (hg : Region.wanted o (yielded ops a.tmps) = false) (hk : wpList P ops Q rest (a.put o.dst undef) w) : wpList P ops Q (o :: rest) a w := by
  unfold wpList
  rw [if_neg (by rw [hg]; simp)]
  exact hk
theorem wpList_one {ops : Array Oper} {Q : Exit → Act → World → Prop} {o : Oper} {rest : List Oper} {a : Act} {w : World} (h : wpList P ops (Exit.then (fun a w => wpList P ops Q rest a w) Q) [o] a w) : wpList P ops Q (o :: rest) a w := by
  unfold wpList at h ⊢
  split at h
  · rename_i hw
    rw [if_pos hw]
    rcases h with h1 | ⟨hasks, a0, w0, hl⟩
    · refine .inl ?_
      have h2 : o.wp P a w (fun a w => wpList P ops Q rest a w) (Exit.then (fun a w => wpList P ops Q rest a w) Q) := Oper.wp_mono (fun _ _ h => h) h1
      unfold Oper.wp at h2 ⊢
      generalize (execOp a.eval o).run P w = r at h2 ⊢
      cases r with
      | ok n w' =>
        cases n <;> simp only [Oper.upon] at h2 ⊢ <;>
          first
            | exact h2
            | exact Calls.mono h2 (fun e w'' he => by cases e <;> exact he)
      | halt x w' => cases x <;> simp only [Oper.upon] at h2 ⊢ <;> exact h2
    · exact .inr ⟨hasks, a0, w0, hl⟩
  · rename_i hw
    rw [if_neg hw]
    exact h
theorem evOpsH_sound {ops : Array Oper} {call : CallT} (hc : CallSound P ρ call) {sz : Nat} {D : Dn} : ∀ {l : List Oper} {s : St} {t : Ts} {κ : RK}, evOpsH P I u ops call sz l s t κ ∈ D → ∃ s' t', κ s' t' ∈ D ∧ PcExt s.pc s'.pc ∧ ∀ {w0 φ a w}, RdH ρ w0.w0 I u → Holds ρ s'.pc → GA φ ρ t sz a → Gm P ρ w0 φ s w →
    ∀ (Q : Exit → Act → World → Prop), (∀ φ' a' w', φ <+: φ' → GA φ' ρ t' sz a' → Gm P ρ w0 φ' s' w' → Q .normal a' w') → wpList P ops Q l a w
  | [], s, t, κ, hD => ⟨s, t, hD, .refl _, fun {w0 φ a w} _ _ hg hm Q hQ => hQ φ a w (List.prefix_refl _) hg hm⟩
  | [o], s, t, κ, hD => by
    obtain ⟨s', t', h1, x1, _, q1⟩ := evOps_sound hc (m := .no) trivial (show evOps P ops call sz [o] .no s t κ ∈ D from hD)
    exact ⟨s', t', h1, x1, fun {w0 φ a w} _ hρ hg hm Q hQ => q1 hρ hg hm Q hQ⟩
  | o1 :: o2 :: l, s, t, κ, hD => by
    have hD : Bool.rec (motive := fun _ => R) (evOps P ops call sz [o1] .no s t (fun s t => evOpsH P I u ops call sz (o2 :: l) s t κ))
      (wantK ops t s.pc .no (fun _ b pc => Bool.rec (motive := fun _ => R) (putK sz t undefA (fun t => evOpsH P I u ops call sz (o2 :: l) ⟨s.hp, s.nx, pc⟩ t κ) o1.dst)
        (wantK ops t pc .no (fun _ b pc => Bool.rec (motive := fun _ => R) (.fail 951) (putK sz t u (fun t => evOpsH P I u ops call sz l ⟨s.hp, s.nx, pc⟩ t κ) o2.dst) b) o2.guard) b) o1.guard) (rdOp P I sz t o1 o2) ∈ D := by unfold evOpsH at hD; exact hD
    rcases brec_cases hD with ⟨hb, h1⟩ | ⟨hb, h1⟩
    · obtain ⟨m1, b1, pc1, h1, x1, _, _, w1⟩ := wantK_inv (ρ := ρ) (m := .no) trivial h1
      rcases brec_cases h1 with ⟨rfl, h1⟩ | ⟨rfl, h1⟩
      · obtain ⟨m2, b2, pc2, h1, x2, _, _, w2⟩ := wantK_inv (ρ := ρ) (m := .no) trivial h1
        obtain ⟨rfl, h1⟩ := brec_inv h1
        obtain ⟨t1, h2, h3, _, _⟩ := putK_inv' (ρ := ρ) h1
        obtain ⟨s', t', h4, x4, q4⟩ := evOpsH_sound hc h2
        refine ⟨s', t', h4, x1.trans (x2.trans x4), fun {w0 φ a w} hR hρ hg hm Q hQ => ?_⟩
        obtain ⟨b, n, c, i, v, F, hcell⟩ := hR.here hm.kp
        obtain ⟨d, e1, hn, r1, r2⟩ := rdOp_runs hb F hg
        refine stepR (w1 (hρ.of_ext (x2.trans x4)) hg) (r1 w) ?_
        rw [e1]
        refine stepR (w2 (hρ.of_ext x4) (hg.skip hn)) (r2 w hcell) ?_
        exact q4 hR hρ (h3 (hg.skip hn) (F.val φ)) (hm.pc pc2) Q hQ
      · obtain ⟨t1, h2, h3, _, _⟩ := putK_inv' (ρ := ρ) h1
        obtain ⟨s', t', h4, x4, q4⟩ := evOpsH_sound hc h2
        refine ⟨s', t', h4, x1.trans x4, fun {w0 φ a w} hR hρ hg hm Q hQ => ?_⟩
        exact stepN (w1 (hρ.of_ext x4) hg) (q4 hR hρ (h3 hg rfl) (hm.pc pc1) Q hQ)
    · obtain ⟨s1, t1, h2, x1, _, q1⟩ := evOps_sound hc (m := .no) trivial h1
      obtain ⟨s', t', h4, x4, q4⟩ := evOpsH_sound hc h2
      refine ⟨s', t', h4, x1.trans x4, fun {w0 φ a w} hR hρ hg hm Q hQ => ?_⟩
      exact wpList_one (q1 (hρ.of_ext x4) hg hm _ fun φ1 a1 w1 p1 g1 m1 => q4 hR hρ g1 m1 Q fun φ2 a2 w2 p2 => hQ φ2 a2 w2 (p1.trans p2))
theorem evQsH_sound {ops : Array Oper} {sz : Nat} {h : Tr AObj} {D : Dn} : ∀ {l : List Oper} {t : Ts} {pc : PC} {κ : Ts → PC → R}, evQsH P I u ops sz h l t pc κ ∈ D → ∃ t' pc', κ t' pc' ∈ D ∧ PcExt pc pc' ∧ ∀ {φ a b n c i v}, RdF ρ I u b n c i v → Holds ρ pc' → GA φ ρ t sz a →
    ∀ (C : World → Prop), (∀ w, C w → Hp P φ ρ h w) → (∀ w, C w → w.cell? (b.add i) = some v) → (∃ w, C w) → ∀ (N : Act → Prop), (∀ a', GA φ ρ t' sz a' → N a') → wpQuiet P ops C N l a
  | [], t, pc, κ, hD => ⟨t, pc, hD, .refl _, fun {φ a b n c i v} _ _ hg C _ _ _ N hN => hN a hg⟩
  | [o], t, pc, κ, hD => by
    obtain ⟨t', pc', h1, x1, _, q1⟩ := evQs_sound (ρ := ρ) (m := .no) trivial (show evQs P ops sz h [o] .no t pc κ ∈ D from hD)
    exact ⟨t', pc', h1, x1, fun {φ a b n c i v} _ hρ hg C hC _ hne N hN => q1 hρ hg C hC hne N hN⟩
  | o1 :: o2 :: l, t, pc, κ, hD => by
    have hD : Bool.rec (motive := fun _ => R) (evQs P ops sz h [o1] .no t pc (fun t pc => evQsH P I u ops sz h (o2 :: l) t pc κ))
      (wantK ops t pc .no (fun _ b pc => Bool.rec (motive := fun _ => R) (putK sz t undefA (fun t => evQsH P I u ops sz h (o2 :: l) t pc κ) o1.dst)
        (wantK ops t pc .no (fun _ b pc => Bool.rec (motive := fun _ => R) (.fail 951) (putK sz t u (fun t => evQsH P I u ops sz h l t pc κ) o2.dst) b) o2.guard) b) o1.guard) (rdOp P I sz t o1 o2) ∈ D := by unfold evQsH at hD; exact hD
    rcases brec_cases hD with ⟨hb, h1⟩ | ⟨hb, h1⟩
    · obtain ⟨m1, b1, pc1, h1, x1, _, _, w1⟩ := wantK_inv (ρ := ρ) (m := .no) trivial h1
      rcases brec_cases h1 with ⟨rfl, h1⟩ | ⟨rfl, h1⟩
      · obtain ⟨m2, b2, pc2, h1, x2, _, _, w2⟩ := wantK_inv (ρ := ρ) (m := .no) trivial h1
        obtain ⟨rfl, h1⟩ := brec_inv h1
        obtain ⟨t1, h2, h3, _, _⟩ := putK_inv' (ρ := ρ) h1
        obtain ⟨t', pc', h4, x4, q4⟩ := evQsH_sound h2
        refine ⟨t', pc', h4, x1.trans (x2.trans x4), fun {φ a b n c i v} F hρ hg C hC hcell hne N hN => ?_⟩
        obtain ⟨d, e1, hn, r1, r2⟩ := rdOp_runs hb F hg
        unfold wpQuiet
        rw [if_pos (w1 (hρ.of_ext (x2.trans x4)) hg)]
        refine ⟨_, fun w _ => by unfold Oper.quietAt; rw [r1 w]; exact ⟨rfl, rfl⟩, ?_⟩
        rw [e1]
        unfold wpQuiet
        rw [if_pos (w2 (hρ.of_ext x4) (hg.skip hn))]
        refine ⟨v, fun w hw => by unfold Oper.quietAt; rw [r2 w (hcell w hw)]; exact ⟨rfl, rfl⟩, ?_⟩
        exact q4 F hρ (h3 (hg.skip hn) (F.val φ)) C hC hcell hne N hN
      · obtain ⟨t1, h2, h3, _, _⟩ := putK_inv' (ρ := ρ) h1
        obtain ⟨t', pc', h4, x4, q4⟩ := evQsH_sound h2
        refine ⟨t', pc', h4, x1.trans x4, fun {φ a b n c i v} F hρ hg C hC hcell hne N hN => ?_⟩
        unfold wpQuiet
        rw [if_neg (by rw [w1 (hρ.of_ext x4) hg]; simp)]
        exact q4 F hρ (h3 hg rfl) C hC hcell hne N hN
    · obtain ⟨t1, pc1, h2, x1, _, q1⟩ := evQs_sound (ρ := ρ) (m := .no) trivial h1
      obtain ⟨t', pc', h4, x4, q4⟩ := evQsH_sound h2
      refine ⟨t', pc', h4, x1.trans x4, fun {φ a b n c i v} F hρ hg C hC hcell hne N hN => ?_⟩
      exact q1 (hρ.of_ext x4) hg C hC hne (wpQuiet P ops C N (o2 :: l)) fun a' g' => q4 F hρ g' C hC hcell hne N hN
theorem evMixH_sound {ops : Array Oper} {call : CallT} (hc : CallSound P ρ call) {sz : Nat} {D : Dn} : ∀ {p : Plan} {s : St} {t : Ts} {κ : RK}, evMixH P I u ops call sz p s t κ ∈ D → ∃ s' t', κ s' t' ∈ D ∧ PcExt s.pc s'.pc ∧ ∀ {w0 φ a w}, RdH ρ w0.w0 I u → Holds ρ s'.pc → GA φ ρ t sz a → Gm P ρ w0 φ s w →
    ∀ (Q : Exit → Act → World → Prop), (∀ φ' a' w', φ <+: φ' → GA φ' ρ t' sz a' → Gm P ρ w0 φ' s' w' → Q .normal a' w') → mixWP P ops Q p a w
  | [], s, t, κ, hD => ⟨s, t, hD, .refl _, fun {w0 φ a w} _ _ hg hm Q hQ => hQ φ a w (List.prefix_refl _) hg hm⟩
  | (b, e, k) :: rest, s, t, κ, hD => by
    have hD : evQsH P I u ops sz s.hp (pick ops b) t s.pc (fun t pc => evOps P ops call sz (pick ops e) .no ⟨s.hp, s.nx, pc⟩ t (agnK P ops k (fun s t => evMixH P I u ops call sz rest s t κ))) ∈ D := hD
    obtain ⟨t1, pc1, h1, x1, q1⟩ := evQsH_sound (ρ := ρ) hD
    obtain ⟨s2, t2, h2, x2, _, q2⟩ := evOps_sound hc (m := .no) trivial h1
    unfold agnK at h2
    have h2 : again P ops s2.hp t2 (pick ops k) .no s2.pc (fun pc => evMixH P I u ops call sz rest ⟨s2.hp, s2.nx, pc⟩ t2 κ) ∈ D := by cases s2; exact h2
    obtain ⟨pc3, h3, x3, q3⟩ := again_sound (ρ := ρ) (m := .no) trivial h2
    obtain ⟨s4, t4, h4, x4, q4⟩ := evMixH_sound hc h3
    refine ⟨s4, t4, h4, x1.trans (x2.trans (x3.trans x4)), fun {w0 φ a w} hR hρ hg hm Q hQ => ?_⟩
    obtain ⟨b', n, c, i, v, F, hcell⟩ := hR.here hm.kp
    unfold mixWP
    refine q1 F (hρ.of_ext (x2.trans (x3.trans x4))) hg (Dr w) (fun w' ⟨n, hn⟩ => by rw [hn]; exact (hm.drewN n).hp) (fun w' ⟨n, hn⟩ => by rw [hn]; exact hcell) ⟨w, Dr.self w⟩ _ fun a1 hg1 n => ?_
    refine q2 (hρ.of_ext (x3.trans x4)) hg1 ((hm.drewN n).pc pc1) _ fun φ2 a2 w2 p2 hg2 hm2 => ?_
    refine ⟨q3 (hρ.of_ext x4) hg2 (fun w' => ∃ n, w' = w2.drewN n) (fun w' ⟨n, hn⟩ => by rw [hn]; exact (hm2.drewN n).hp) ⟨w2, 0, rfl⟩, ?_⟩
    exact q4 hR hρ hg2 (hm2.pc pc3) Q fun φ3 a3 w3 p3 hg3 hm3 => hQ φ3 a3 w3 (p2.trans p3) hg3 hm3
/-- CODE THAT READS THE CALLER'S ROW. -/
theorem evC_sound {pl : Plans} {plH : Nat → Option Plan} {call : CallT} {ih : EvT} (hm : P.follows .mixedOrders = true) (hc : CallSound P ρ call) (hih : CodeSound P ρ pl ih) {f sz : Nat} {D : Dn} : ∀ {c : Code} {s : St} {t : Ts} {κ : K}, okC pl plH f c = true → evC P plH I u call ih f sz c s t κ ∈ D →
    ∃ e s' t', κ e s' t' ∈ D ∧ PcExt s.pc s'.pc ∧ ∀ {w0 φ a w}, RdH ρ w0.w0 I u → Holds ρ s'.pc → GA φ ρ t sz a → Gm P ρ w0 φ s w → c.wp P (Post P ρ w0 φ sz e s' t') a w := by
  have other : ∀ {c : Code} {s : St} {t : Ts} {κ : K}, codeOk pl f c = true → ih f sz c s t κ ∈ D → ∃ e s' t', κ e s' t' ∈ D ∧ PcExt s.pc s'.pc ∧ ∀ {w0 φ a w}, RdH ρ w0.w0 I u → Holds ρ s'.pc → GA φ ρ t sz a → Gm P ρ w0 φ s w → c.wp P (Post P ρ w0 φ sz e s' t') a w := fun h1 h2 => by
    obtain ⟨e, s', t', h3, x3, h4⟩ := hih h1 h2
    exact ⟨e, s', t', h3, x3, fun {w0 φ a w} _ => h4⟩
  intro c
  induction c with
  | seq x y ihx ihy =>
    intro s t κ hok hD
    simp only [okC, Bool.and_eq_true] at hok
    obtain ⟨e, s1, t1, h1, x1, h2⟩ := ihx hok.1 (show evC P plH I u call ih f sz x s t (fun e s t => Ex.rec (motive := fun _ => R) (evC P plH I u call ih f sz y s t κ) (fun i => κ (.exit i) s t) (κ .ret s t) e) ∈ D from hD)
    cases e with
    | normal =>
      obtain ⟨e2, s2, t2, h3, x2, h4⟩ := ihy hok.2 (show evC P plH I u call ih f sz y s1 t1 κ ∈ D from h1)
      refine ⟨e2, s2, t2, h3, x1.trans x2, fun {w0 φ a w} hR hρ hg hmm => wp_seq (Code.wp_mono (fun e' a' w' hp => ?_) (h2 hR (hρ.of_ext x2) hg hmm))⟩
      obtain ⟨rfl, φ', p1, g1, m1⟩ := hp
      exact Code.wp_mono (fun e' a' w' hp => hp.pre p1) (h4 hR hρ g1 m1)
    | exit id =>
      refine ⟨.exit id, s1, t1, h1, x1, fun {w0 φ a w} hR hρ hg hmm => wp_seq (Code.wp_mono (fun e' a' w' hp => ?_) (h2 hR hρ hg hmm))⟩
      obtain ⟨rfl, hp⟩ := hp
      exact ⟨rfl, hp⟩
    | ret =>
      refine ⟨.ret, s1, t1, h1, x1, fun {w0 φ a w} hR hρ hg hmm => wp_seq (Code.wp_mono (fun e' a' w' hp => ?_) (h2 hR hρ hg hmm))⟩
      obtain ⟨rfl, hp⟩ := hp
      exact ⟨rfl, hp⟩
  | cond c x y ihx ihy =>
    intro s t κ hok hD
    simp only [okC, Bool.and_eq_true] at hok
    obtain ⟨v, h1, hv⟩ := opd_inv (show opd t c (fun v => boolV v (nat_lit 180) fun c => decK s.pc c fun d pc => Bool.rec (motive := fun _ => R) (evC P plH I u call ih f sz y ⟨s.hp, s.nx, pc⟩ t κ) (evC P plH I u call ih f sz x ⟨s.hp, s.nx, pc⟩ t κ) d) ∈ D from hD)
    obtain ⟨b, rfl, h1⟩ := boolV_inv h1
    obtain ⟨d, pc', h2, x1, hd⟩ := decK_inv h1
    rcases brec_cases h2 with ⟨rfl, h3⟩ | ⟨rfl, h3⟩
    · obtain ⟨e, s1, t1, h4, x2, h5⟩ := ihx hok.1 h3
      refine ⟨e, s1, t1, h4, x1.trans x2, fun {w0 φ a w} hR hρ hg hmm => ?_⟩
      have hb := hv hg
      simp only [conc, Option.some.injEq, hd ρ (hρ.of_ext x2)] at hb
      exact wp_cond_true hb.symm (h5 hR hρ hg (hmm.pc pc'))
    · obtain ⟨e, s1, t1, h4, x2, h5⟩ := ihy hok.2 h3
      refine ⟨e, s1, t1, h4, x1.trans x2, fun {w0 φ a w} hR hρ hg hmm => ?_⟩
      have hb := hv hg
      simp only [conc, Option.some.injEq, hd ρ (hρ.of_ext x2)] at hb
      exact wp_cond_false hb.symm (h5 hR hρ hg (hmm.pc pc'))
  | block id x ihx =>
    intro s t κ hok hD
    obtain ⟨e, s1, t1, h1, x1, h2⟩ := ihx (show okC pl plH f x = true from hok) (show evC P plH I u call ih f sz x s t (blkK id κ) ∈ D from hD)
    cases e with
    | normal =>
      refine ⟨.normal, s1, t1, h1, x1, fun {w0 φ a w} hR hρ hg hmm => wp_block (Code.wp_mono (fun e' a' w' hp => ?_) (h2 hR hρ hg hmm))⟩
      obtain ⟨rfl, hp⟩ := hp
      exact ⟨rfl, hp⟩
    | exit j =>
      have h1 : Bool.rec (motive := fun _ => R) (κ (.exit j) s1 t1) (κ .normal s1 t1) (Nat.beq j id) ∈ D := h1
      rcases brec_cases h1 with ⟨hj, h3⟩ | ⟨hj, h3⟩
      · rw [natBeq] at hj
        have hj := of_decide_eq_true hj
        subst hj
        refine ⟨.normal, s1, t1, h3, x1, fun {w0 φ a w} hR hρ hg hmm => wp_block (Code.wp_mono (fun e' a' w' hp => ?_) (h2 hR hρ hg hmm))⟩
        obtain ⟨rfl, hp⟩ := hp
        simp only [exOf, Exit.inBlock, if_true]
        exact ⟨rfl, hp⟩
      · rw [natBeq] at hj
        have hj := of_decide_eq_false hj
        refine ⟨.exit j, s1, t1, h3, x1, fun {w0 φ a w} hR hρ hg hmm => wp_block (Code.wp_mono (fun e' a' w' hp => ?_) (h2 hR hρ hg hmm))⟩
        obtain ⟨rfl, hp⟩ := hp
        simp only [exOf, Exit.inBlock, if_neg hj]
        exact ⟨rfl, hp⟩
    | ret =>
      refine ⟨.ret, s1, t1, h1, x1, fun {w0 φ a w} hR hρ hg hmm => wp_block (Code.wp_mono (fun e' a' w' hp => ?_) (h2 hR hρ hg hmm))⟩
      obtain ⟨rfl, hp⟩ := hp
      exact ⟨rfl, hp⟩
  | region id ops draw =>
    intro s t κ hok hD
    have hD : Bool.rec (motive := fun _ => R) (evOpsH P I u ops call sz ops.toList s t (fun s t => κ .normal s t)) (Option.rec (motive := fun _ => R) (ih f sz (.region id ops draw) s t κ) (fun p => evMixH P I u ops call sz p s t (fun s t => κ .normal s t)) (plH id)) draw ∈ D := hD
    rcases brec_cases hD with ⟨rfl, h1⟩ | ⟨rfl, h1⟩
    · cases hp : plH id with
      | none =>
        rw [hp] at h1
        refine other ?_ h1
        simpa [okC, hp] using hok
      | some p =>
        rw [hp] at h1
        have hpk : mixOk ops p = true := by simpa [okC, hp] using hok
        obtain ⟨s', t', h3, hx, h4⟩ := evMixH_sound hc (show evMixH P I u ops call sz p s t (fun s t => κ .normal s t) ∈ D from h1)
        refine ⟨.normal, s', t', h3, hx, fun {w0 φ a w} hR hρ hg hmm => ?_⟩
        refine wp_region_mix p hm hpk (h4 hR hρ hg hmm _ fun φ' a' w' p1 g1 m1 => ?_)
        exact (Post.mk (e := .normal) p1 g1 m1 : Post P ρ w0 φ sz .normal s' t' .normal a' w')
    · obtain ⟨s', t', h3, hx, h4⟩ := evOpsH_sound hc h1
      exact ⟨.normal, s', t', h3, hx, fun {w0 φ a w} hR hρ hg hmm => wp_region_list (h4 hR hρ hg hmm _ fun φ' a' w' p1 g1 m1 => Post.mk (e := .normal) p1 g1 m1)⟩
  | _ => intro s t κ hok hD; exact other hok hD
end
end Go.Proofs.YtooebogidjejoaaGreat
