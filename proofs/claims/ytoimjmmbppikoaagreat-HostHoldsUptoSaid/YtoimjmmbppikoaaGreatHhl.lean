/-
  HostHolds: all rounds, one behind the other.
-/
import Derived.Test.YtoimjmmbppikoaaGreatHhT
set_option linter.unusedVariables false
set_option linter.unusedSimpArgs false
namespace Go.Proofs.YtoimjmmbppikoaaGreat
open Go

theorem tmH_cases {x : Nat × AV} (h : x ∈ tmH) : x = (8, .int .i64 (.var 3)) ∨ x ∈ tmN := by
  simp only [tmH, tmN, List.mem_cons, List.not_mem_nil, or_false] at h ⊢
  rcases h with h | h | h | h | h | h | h
  · exact .inr (.inl h)
  · exact .inr (.inr (.inl h))
  · exact .inr (.inr (.inr (.inl h)))
  · exact .inr (.inr (.inr (.inr (.inl h))))
  · exact .inl h
  · exact .inr (.inr (.inr (.inr (.inr (.inl h)))))
  · exact .inr (.inr (.inr (.inr (.inr (.inr h)))))
theorem patN_tm (j : Nat) : (patN j).tm = tmH := by
  unfold patN
  split <;> rfl
theorem patN_ok (j : Nat) : (patN j).okB 103 = true := by
  unfold patN
  split
  · exact patP_ok
  · exact patS1_ok
  · exact patS2_ok
  · exact patS3_ok
  · exact patS4_ok
theorem patN_n4 (j : Nat) (v : Int) : chkH (patN j).rg (rSet 3 v) (patN j).h (Tr.toL (patN j).h (nat_lit 0) (nat_lit 1) []) .nil = true := by
  unfold patN
  split
  · exact patP_n4 v
  · exact patS1_n4 v
  · exact patS2_n4 v
  · exact patS3_n4 v
  · exact patS4_n4 v
theorem patN_nT (j : Nat) (v : Int) : chkTm (patN j).rg (rSet 3 v) ((patN j).ts 103) tmN = true := by
  unfold patN
  split
  · exact patP_nT v
  · exact patS1_nT v
  · exact patS2_nT v
  · exact patS3_nT v
  · exact patS4_nT v
theorem patN_r3 (j : Nat) : nthR (patN j).rg 3 = some (1, 30101) := by
  unfold patN
  split <;> rfl
theorem patN_ts (j : Nat) : (patN j).ts 103 = tsP tmH (skel (nat_lit 8)) := by
  show tsP (patN j).tm (skel (nat_lit 8)) = _
  rw [patN_tm]
theorem tmH_0 : (tsP tmH (skel (nat_lit 8))).get 0 = some (.osl 300 304 303) := by kernel_rfl
theorem tmH_8 : (tsP tmH (skel (nat_lit 8))).get 8 = some (.int .i64 (.var 3)) := by kernel_rfl
theorem tmH_10 : (tsP tmH (skel (nat_lit 8))).get 10 = some (.int .i64 (.var 4)) := by kernel_rfl
theorem tmH_103 : (tsP tmH (skel (nat_lit 8))).get 103 = none := by kernel_rfl

/-- what the law is given -/
structure Given (W : World) (ρ0 : Nat → Int) (q : Option Addr) (n c : Nat) (xs : Nat → Int) : Prop where
  adr : adrL ρ0 300 = q
  len : ρ0 304 = n
  cap : (ρ0 303).toNat = c
  le : n ≤ 300
  cell : ∀ i, i < n → ∃ b, q = some b ∧ b.block < W.heap.size ∧ W.cell? (b.add i) = some (.int .i64 (xs i))
def StH (W : World) (ρ0 : Nat → Int) (i : Nat) (a : Act) (w : World) : Prop := ∃ j ρ, At W (patN j) ρ a w ∧ Inv (patN j) ρ i i ∧ ∀ k, 64 ≤ k → k < 600 → ρ k = ρ0 k

theorem at_now {j : Nat} {v : Int} {W : World} {ρ : Nat → Int} {a a' : Act} {w : World} (hrg : RgOk ρ (patN j).rg) (hat : At W (patN j) ρ a w) {S : List Nat} (hS : Same a a' S) (hLS : ∀ x ∈ tmN, x.1 ∉ S) (h8 : Act.at a' 8 = .int .i64 v) : At W (patN j) ((rSet 3 v).rho ρ) a' w := by
  obtain ⟨w0, φ, hW, hs, hd, ht, hm⟩ := at_set (k0 := 3) (v := v) (by decide) (patN_ok j) (patN_n4 j v) (patN_nT j v) (fun x hx => by
    rw [patN_tm]
    simp only [tmH, tmN, List.mem_cons, List.not_mem_nil, or_false] at hx ⊢
    rcases hx with h | h | h | h | h | h
    · exact .inl h
    · exact .inr (.inl h)
    · exact .inr (.inr (.inl h))
    · exact .inr (.inr (.inr (.inl h)))
    · exact .inr (.inr (.inr (.inr (.inr (.inl h)))))
    · exact .inr (.inr (.inr (.inr (.inr (.inr h)))))) hrg hat hS hLS
  refine ⟨w0, φ, hW, ⟨hs, fun d u hu => ?_, ?_⟩, hm⟩
  · rw [patN_ts] at hu
    rcases tsP_get hu with ⟨x, hx, rfl, rfl⟩ | hu
    · rcases tmH_cases hx with rfl | hx
      · show some (.int .i64 ((rSet 3 v).rho ρ 3)) = some (Act.at a' 8)
        rw [h8, rSet_rho 3 v ρ 3 (by decide), if_pos rfl]
      · exact ht x hx
    · rw [show (skel 8).get d = none from skel_getP _] at hu
      cases hu
  · rw [patN_ts, tmH_103, hd]
    exact .none

theorem addr_block (b : Addr) (i : Nat) : (b.add i).block = b.block := by
  unfold Addr.add
  split <;> rfl
theorem cell_kp {W w : World} (h : Kp [] W w) {b : Addr} {v : Value} (hb : b.block < W.heap.size) (hc : W.cell? b = some v) : w.cell? b = some v := by
  rw [← hc]
  simp only [World.cell?, h.block b.block hb (by simp)]
set_option maxRecDepth 100000 in
theorem body_ok {W : World} {ρ0 : Nat → Int} {q : Option Addr} {n c : Nat} {xs : Nat → Int} (G : Given W ρ0 q n c xs) {i : Nat} (hi : i ≤ n) {a : Act} {w : World} (h : StH W ρ0 i a w) :
    loopC.wp Tryz.prog (fun e a' w' => (e = .normal ∧ i < n ∧ StH W ρ0 (i + 1) a' w') ∨ (e = .exit 0 ∧ i = n ∧ StH W ρ0 n a' w')) a w := by
  obtain ⟨j, ρ, hat, hI, hk⟩ := h
  have hat0 := hat
  obtain ⟨w0, φ, hW, hg, hm⟩ := hat
  have hn := G.le
  have t0 := hg.tm 0 _ (by rw [patN_ts]; exact tmH_0)
  have t8 := hg.tm 8 _ (by rw [patN_ts]; exact tmH_8)
  have t10 := hg.tm 10 _ (by rw [patN_ts]; exact tmH_10)
  have hadr : adrL ρ 300 = adrL ρ0 300 := by simp only [adrL, hk 300 (by omega) (by omega), hk 301 (by omega) (by omega), hk 302 (by omega) (by omega)]
  have e0 : Act.at a 0 = .slice q n c := by
    simp only [conc, hadr, G.adr, hk 304 (by omega) (by omega), G.len, hk 303 (by omega) (by omega), G.cap, Option.some.injEq, Int.toNat_natCast] at t0
    exact t0.symm
  have e8 : Act.at a 8 = .int .i64 (ρ 3) := (Option.some.inj t8).symm
  have hIr := hI
  obtain ⟨hr, h4, h5, h9, h10, h6, h7, h11, h812, h3, h14, h13⟩ := hI
  have e10 : Act.at a 10 = .int .i64 i := by rw [← h4]; exact (Option.some.inj t10).symm
  have hs := hg.size
  have h3l := hr 3 1 30101 (patN_r3 j)
  rw [loop_eq]
  refine wp_seq (wp_seq (r11_ok ops11_eq o11_0 o11_1 o11_2 o11_3 hs e0 e10 fun a1 s1 c49 => ?_))
  show (Code.cond (.tmp 49) .skip (.exit 0)).wp Tryz.prog _ a1 w
  by_cases hin : i < n
  · refine wp_cond_true (by rw [Act.eval_tmp, c49]; simp only [Value.bool.injEq, decide_eq_true_eq]; omega) (wp_skip ?_)
    obtain ⟨b, hb, hb1, hb2⟩ := G.cell i hin
    subst hb
    have hcell := cell_kp (b := b.add i) hm.kp (by rw [hW, addr_block]; exact hb1) (by rw [hW]; exact hb2)
    refine wp_seq (wp_block (wp_seq (r13_ok ops13_eq o13_0 o13_1 o13_2 o13_3 o13_4 o13_5 o13_6 o13_7 o13_8 (q := b) (n := n) (c := c) (i := i) (x := xs i) (now := ρ 3) (s1.1.trans hs) ((s1.2.2 0 (by decide)).trans e0) ((s1.2.2 10 (by decide)).trans e10) ((s1.2.2 8 (by decide)).trans e8) hin hcell ⟨by omega, by omega⟩ fun a2 s2 c8 => ?_)))
    have hcl := clampZ_rg (xs i)
    have s12 : Same a a2 [46, 47, 48, 49, 8, 52, 53, 54, 55, 56, 57, 58, 59] := ⟨s2.1.trans s1.1, s2.2.1.trans s1.2.1, fun e he => by
      simp only [List.mem_cons, List.not_mem_nil, or_false, not_or] at he
      rw [s2.2.2 e (by simp only [List.mem_cons, List.not_mem_nil, or_false, not_or]; omega), s1.2.2 e (by simp only [List.mem_cons, List.not_mem_nil, or_false, not_or]; omega)]⟩
    have hat2 := at_now (v := ρ 3 + clampZ (xs i)) hr hat0 s12 (by decide) c8
    generalize hρ' : (rSet 3 (ρ 3 + clampZ (xs i))).rho ρ = ρ' at hat2
    have hρk : ∀ k, k ≠ 3 → ρ' k = ρ k := fun k hk => by rw [← hρ', rSet_rho _ _ _ _ (by decide), if_neg hk]
    have hρ3 : ρ' 3 = ρ 3 + clampZ (xs i) := by rw [← hρ', rSet_rho _ _ _ _ (by decide), if_pos rfl]
    have hr' : RgOk ρ' (patN j).rg := fun k l u hkn => by
      by_cases hk3 : k = 3
      · subst hk3
        rw [patN_r3] at hkn
        cases hkn
        rw [hρ3]
        omega
      · rw [hρk k hk3]
        exact hr k l u hkn
    have hI' : Inv (patN j) ρ' i (i + 1) := ⟨hr', by rw [hρk 4 (by decide)]; exact h4, by rw [hρk 5 (by decide)]; exact h5, by rw [hρk 9 (by decide)]; exact h9, by rw [hρk 10 (by decide)]; exact h10, by rw [hρk 6 (by decide)]; exact h6, by rw [hρk 7 (by decide)]; exact h7, by rw [hρk 11 (by decide)]; exact h11, by rw [hρk 8 (by decide), hρk 12 (by decide)]; exact h812, by rw [hρ3]; omega, by rw [hρk 14 (by decide), hρ3]; omega, by rw [hρk 13 (by decide), hρk 12 (by decide), hρk 14 (by decide)]; exact h13⟩
    obtain ⟨K, ps, LL, hlv, hen, hps, hstep⟩ := roundF j
    refine round_gen hlv hen (fun x hx => (hps x hx).1) hr' hat2 (fun a' w' h => h) fun x hx r l hL hc a' w' hA => .inl ⟨rfl, hin, x.1, r.rho ρ', ?_, ?_, fun k hk1 hk2 => ?_⟩
    · rw [← (hps x hx).2]
      exact hA
    · have := hstep _ hL ρ' i (by omega) hI' hc
      exact Inv.congr (patN_len _) (fun k hk => newRho_lets r ρ' hk) this
    · rw [Ren.rho_hi ⟨hk1, by omega⟩, hρk k (by omega), hk k hk1 hk2]
  · refine wp_cond_false (by rw [Act.eval_tmp, c49]; simp only [Value.bool.injEq, decide_eq_false_iff_not]; omega) (wp_exit ?_)
    obtain rfl : i = n := by omega
    refine .inr ⟨rfl, rfl, j, ρ, ⟨w0, φ, hW, ⟨s1.1.trans hs, fun d u hu => ?_, by rw [s1.2.1]; exact hg.df⟩, hm⟩, hIr, hk⟩
    rw [hg.tm d u hu]
    rw [patN_ts] at hu
    rcases tsP_get hu with ⟨x, hx, rfl, rfl⟩ | hu
    · have : ∀ x ∈ tmH, x.1 ∉ [46, 47, 48, 49] := by
        have hN : ∀ x ∈ tmN, x.1 ∉ [46, 47, 48, 49] := by decide
        intro x hx
        rcases tmH_cases hx with rfl | hx
        · decide
        · exact hN x hx
      exact congrArg some (s1.2.2 _ (this x hx)).symm
    · rw [show (skel 8).get d = none from skel_getP _] at hu
      cases hu
theorem loop_ok {W : World} {ρ0 : Nat → Int} {q : Option Addr} {n c : Nat} {xs : Nat → Int} (G : Given W ρ0 q n c xs) : ∀ (m i : Nat), i + m = n → ∀ {a : Act} {w : World}, StH W ρ0 i a w → (Code.loop loopC).wp Tryz.prog (fun e a' w' => e = .exit 0 ∧ StH W ρ0 n a' w') a w := by
  intro m
  induction m with
  | zero =>
    intro i him a w h
    refine wp_loop_unroll (fun a w h => by cases h.1) (fun l a w h => by cases h.1) (Code.wp_mono (fun e a' w' hp => ?_) (body_ok G (by omega) h))
    rcases hp with ⟨rfl, h1, _⟩ | ⟨rfl, _, h2⟩
    · omega
    · exact ⟨rfl, h2⟩
  | succ m ih =>
    intro i him a w h
    refine wp_loop_unroll (fun a w h => by cases h.1) (fun l a w h => by cases h.1) (Code.wp_mono (fun e a' w' hp => ?_) (body_ok G (by omega) h))
    rcases hp with ⟨rfl, h1, h2⟩ | ⟨rfl, _, h2⟩
    · exact ih (i + 1) (by omega) h2
    · exact ⟨rfl, h2⟩

/-! behind the rounds -/
set_option maxRecDepth 100000 in
theorem post_ok {W : World} {ρ0 : Nat → Int} {q : Option Addr} {n c : Nat} {xs : Nat → Int} (G : Given W ρ0 q n c xs) {a : Act} {w : World} (h : StH W ρ0 n a w) : (lftC postC).wp Tryz.prog (fun e a' w' => e = .normal ∧ Act.at a' 4 = .bool true ∧ a'.defers = [] ∧ Kp [] W w') a w := by
  obtain ⟨j, ρ, ⟨w0, φ, hW, hg, hm⟩, hI, hk⟩ := h
  have h304 : ρ 304 = n := by rw [hk 304 (by omega) (by omega)]; exact G.len
  obtain ⟨LL, hen, hLL⟩ := postF j
  have hf : (SB.cmp .leq (.lit (.ofNat (nat_lit 0))) (.var 304)).ev ρ = true := by
    show decide ((0 : Int) ≤ ρ 304) = true
    rw [h304]
    exact decide_eq_true (by omega)
  obtain ⟨V, S, l, h1, h2, h3, h4⟩ := endsR_inv (ρ := ρ) _ hen (fun x hx => by
    rcases List.mem_cons.1 hx with rfl | hx
    · exact hf
    · cases hx)
  obtain ⟨e, s', t', e1, x1, q1⟩ := ih_ok ρ (f := 3) (sz := 103) (c := lftC postC) post_codeOk h1
  cases e with
  | exit i => cases e1
  | ret => cases e1
  | normal =>
    obtain ⟨hb, e2⟩ := brec_inv (show Bool.rec (motive := fun _ => R) (.fail 903) (t'.getK 4 fun v => .done v ⟨.nil, nat_lit 0, ⟨s'.pc.l, [], []⟩⟩) (isN (t'.get 103)) ∈ _ from e1)
    obtain ⟨v, hv, e3⟩ := getK_inv e2
    obtain ⟨rfl, hS⟩ : v = V ∧ (⟨.nil, nat_lit 0, ⟨s'.pc.l, [], []⟩⟩ : St) = S := e3
    have hρ : Holds ρ s'.pc := ⟨by rw [← hS] at h4; exact h4, by rw [x1.rg]; exact hI.1⟩
    have hV := hLL _ h2 ρ n G.le hI h304 h3
    refine Code.wp_mono (fun e a' w' hp => ?_) (q1 (w0 := w0) hρ hg (hm.pc _))
    obtain ⟨rfl, φ', p1, g1, m1⟩ := hp
    have ht := g1.tm 4 _ hv
    have hV : v = .bool (.lit true) := hV
    subst hV
    refine ⟨rfl, (Option.some.inj ht).symm, ?_, by rw [← hW]; exact m1.kp⟩
    have hd := g1.df
    rw [isN_iff.1 hb] at hd
    generalize a'.defers = ds at hd ⊢
    cases hd
    rfl
end Go.Proofs.YtoimjmmbppikoaaGreat
