/-
  HostHolds: a whole call.
-/
import Derived.Test.YtoimjmmbppikoaaGreatHhl
import Derived.Test.YtoimjmmbppikoaaGreatHhN
import Derived.ProofKit
import Derived.ChangeSlices
set_option linter.unusedVariables false
set_option linter.unusedSimpArgs false
namespace Go.Proofs.YtoimjmmbppikoaaGreat
open Go

/-- a row of numbers -/
def IntsIn (W : World) (q : Option Addr) (n c : Nat) : Prop := ∃ xs : Nat → Int, ∀ i, i < n → ∃ b, q = some b ∧ b.block < W.heap.size ∧ W.cell? (b.add i) = some (.int .i64 (xs i))
theorem cell_lt {W : World} {b : Addr} {v : Value} (h : W.cell? b = some v) : b.block < W.heap.size := by
  rcases Nat.lt_or_ge b.block W.heap.size with h' | h'
  · exact h'
  · simp [World.cell?, Array.getElem?_eq_none h'] at h
theorem rhoG_ms {ms : List Int} {rs : List RowD} {ads : List (Option Addr × Nat)} {k : Nat} (h : k < 32) : rhoG ms rs ads k = ms.getD k 0 := if_pos h
theorem fo_rhoG {W : World} {ms : List Int} {ads : List (Option Addr × Nat)} : FoOk (rhoG ms [] ads) W := foOk_rhoG (fun r hr => by cases hr)
theorem post_eq : postC = .seq (lftC postC) .ret := by kernel_rfl
theorem pre_codeOk : ∀ c ∈ preL, codeOk plansJ 3 c = true := by
  intro c hc
  have : preL.all (codeOk plansJ 3) = true := by kernel_rfl
  exact List.all_eq_true.1 this c hc
theorem ini_codeOk : codeOk plansJ 3 ini = true := by kernel_rfl
theorem app2_0 (x y : Value) (R : Array Value) : (#[x, y] ++ R).getD 0 undef = x := by
  simp [Array.getD_eq_getD_getElem?, Array.getElem?_append]
theorem app2_1 (x y : Value) (R : Array Value) : (#[x, y] ++ R).getD 1 undef = y := by
  simp [Array.getD_eq_getD_getElem?, Array.getElem?_append]
theorem ga_ini {ρ0 : Nat → Int} {q : Option Addr} {n c : Nat} {port : Int} (h0 : conc [] ρ0 (.osl 300 304 303) = some (.slice q n c)) (h1 : ρ0 1 = port) (R : Array Value) (hR : R.size = 101) : GA [] ρ0 (tsOf 103 [.osl 300 304 303, .int .i64 (.var 1)]) 103 { tmps := #[.slice q n c, .int .i64 port] ++ R, defers := [] } := by
  refine ⟨by simp [hR], fun d v hv => ?_, ?_⟩
  · have hd := tsOf_get hv
    match d, hd with
    | 0, hd =>
      cases hd
      rw [h0]
      exact congrArg some (app2_0 _ _ R).symm
    | 1, hd =>
      cases hd
      show some (Value.int .i64 (ρ0 1)) = _
      rw [h1]
      exact congrArg some (app2_1 _ _ R).symm
    | k + 2, hd => cases hd
  · cases hd : (tsOf 103 [.osl 300 304 303, .int .i64 (.var 1)]).get 103 with
    | none => exact .none
    | some v =>
      have := tsOf_get hd
      cases this
set_option maxRecDepth 100000 in
theorem hh_main {W : World} {q : Option Addr} {n c : Nat} {port : Int} (hq : IntsIn W q n c) (hn : n ≤ 300) (hp : 1 ≤ port ∧ port ≤ 65535) : Calls Tryz.prog 3 #[.slice q n c, .int .i64 port] W fun e w' => e = .returned (.bool true) ∧ Kp [] W w' := by
  obtain ⟨xs, hx⟩ := hq
  generalize hρ0 : rhoG [(n : Int), port] [] [(q, c), (some ⟨n, 0, none⟩, 0)] = ρ0
  obtain ⟨a1, a2⟩ := adrL_rhoG (ms := [(n : Int), port]) (rs := []) (ads := [(q, c), (some ⟨n, 0, none⟩, 0)]) (k := 0) (q := q) (c := c) (by decide) rfl
  have r304 : ρ0 304 = n := by rw [← hρ0]; rfl
  have r1 : ρ0 1 = port := by rw [← hρ0]; rfl
  have G : Given W ρ0 q n c xs := ⟨by rw [← hρ0]; exact a1, r304, by rw [← hρ0]; rw [a2]; rfl, hn, hx⟩
  have hrg : RgOk ρ0 rgI := by
    refine rgOk_mk ?_
    rw [← hρ0]
    refine And.intro (show (0 : Int) ≤ (n : Int) ∧ (n : Int) ≤ 300 by omega) (And.intro (show (1 : Int) ≤ port ∧ port ≤ 65535 from hp) ?_)
    repeat' (refine And.intro ⟨Int.le_refl _, Int.le_refl _⟩ ?_)
    trivial
  refine calls_of_wp (c := bodyF) Tryz.func3 (by kernel_rfl) ?_
  obtain ⟨V, S, l, h1, h2, h3, h4⟩ := endsR_inv (ρ := ρ0) _ pre_ends (fun x hx => by
    rcases List.mem_cons.1 hx with rfl | hx
    · show decide ((300 : Int) < ρ0 304) = false
      rw [r304]
      exact decide_eq_false (by omega)
    rcases List.mem_cons.1 hx with rfl | hx
    · show decide ((0 : Int) ≤ ρ0 304) = true
      rw [r304]
      exact decide_eq_true (by omega)
    · cases hx)
  obtain ⟨e, s1, t1, e1, x1, q1⟩ := evL_sound (ih_ok ρ0) pre_codeOk h1
  cases e with
  | exit i => cases e1
  | ret => cases e1
  | normal =>
    obtain ⟨e, s2, t2, e2, x2, q2⟩ := ih_ok ρ0 (f := 3) (sz := 103) (c := ini) ini_codeOk (show ihM 3 103 ini s1 t1 (kap [(0, patP)]) ∈ _ from e1)
    cases e with
    | exit i => cases e2
    | ret => cases e2
    | normal =>
      obtain ⟨x, hx1, r, e3, q3⟩ := matchL_inv (P := Tryz.prog) (fun y hy => by
        rcases List.mem_cons.1 hy with rfl | hy
        · exact patP_ok
        · cases hy) (show matchL 103 [(0, patP)] s2 t2 ∈ _ from e2)
      obtain rfl : x = (0, patP) := by simpa using hx1
      obtain ⟨hV, hS⟩ : (AV.tup (.int .i64 (.lit (.ofNat 0)) :: lets r ks)) = V ∧ (⟨.nil, nat_lit 0, ⟨s2.pc.l, [], []⟩⟩ : St) = S := e3
      have hρ : Holds ρ0 s2.pc := ⟨by rw [← hS] at h4; exact h4, by rw [x2.rg, x1.rg]; exact hrg⟩
      have hIv : Inv patP (r.rho ρ0) 0 0 := by
        have := pre_ok ρ0 (by rw [r1]; exact hp) _ h2
        rw [← hV] at this
        exact Inv.congr (by kernel_rfl) (fun k hk => newRho_lets r ρ0 hk) this
      have g0 := ga_ini (q := q) (n := n) (c := c) (port := port) (ρ0 := ρ0) (by simp only [conc, G.adr, G.cap, G.len, Int.toNat_natCast]) r1 (Array.replicate (Tryz.f3.ntmps - (#[Value.slice q n c, .int .i64 port] : Array Value).size) undef) (by rw [Array.size_replicate, show Tryz.f3.ntmps = 103 by kernel_rfl]; rfl)
      rw [body_eq]
      refine q1 (w0 := ⟨W, []⟩) (hρ.of_ext x2) g0 (Gm.start W (by rw [← hρ0]; exact fo_rhoG) _ _ _) _ _ fun b1 w1 hp1 => ?_
      obtain ⟨_, φ1, p1, g1, m1⟩ := hp1
      show (Code.seq (.seq ini (.block 0 (.loop loopC))) postC).wp Tryz.prog _ b1 w1
      refine wp_seq (wp_seq (Code.wp_mono (fun e b2 w2 hp2 => ?_) (q2 hρ g1 m1)))
      obtain ⟨rfl, φ2, p2, g2, m2⟩ := hp2
      obtain ⟨w0', φ3, hw, g3, m3⟩ := q3 hρ g2 m2
      have hSt : StH W ρ0 0 b2 w2 := ⟨0, r.rho ρ0, ⟨w0', φ3, hw, g3, m3⟩, hIv, fun k h1 h2 => Ren.rho_hi ⟨h1, by omega⟩⟩
      show (Code.block 0 (.loop loopC)).wp Tryz.prog _ b2 w2
      refine wp_block (Code.wp_mono (fun e b3 w3 hp3 => ?_) (loop_ok G n 0 (by omega) hSt))
      obtain ⟨rfl, hSt⟩ := hp3
      show postC.wp Tryz.prog _ b3 w3
      rw [post_eq]
      refine wp_seq (Code.wp_mono (fun e b4 w4 hp4 => ?_) (post_ok G hSt))
      obtain ⟨rfl, hv, hd, hk⟩ := hp4
      show Code.ret.wp Tryz.prog _ b4 w4
      refine wp_ret (bodyPost_ret (results_tmp rfl _ _ _) hd ⟨?_, hk⟩)
      exact congrArg _ hv
end Go.Proofs.YtoimjmmbppikoaaGreat
