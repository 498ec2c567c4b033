/-
  HubPairs: the loops; a call.
-/
import Derived.Test.YtooebogidjejoaaGreatHpl
set_option linter.unusedVariables false
set_option linter.unusedSimpArgs false
namespace Go.Proofs.YtooebogidjejoaaGreat
open Go

/-- what it is given -/
structure GivenH (W : World) (ρ : Nat → Int) (q : Option Addr) (n c : Nat) (xs : Nat → Value) : Prop where
  adr : adrL ρ 300 = q
  len : ρ 304 = n
  cap : (ρ 303).toNat = c
  le : n ≤ 30
  z : ∀ k, k < 33 → ρ k = 0
  cell : ∀ i, i < n → ∃ b, q = some b ∧ b.block < W.heap.size ∧ W.cell? (b.add i) = some (xs i)
  row : ∀ i, i < n → (∃ (qa : Option Addr) (l k : Nat), xs i = .slice qa l k ∧ ρ (33 + i) = l ∧ ρ (500 + 4 * (33 + i) + 3) = k ∧ adrL ρ (500 + 4 * (33 + i)) = qa ∧ (l = 0 ∨ 1001 ≤ l)) ∨ (ρ (33 + i) ≤ 1000 ∧ ∀ φ, conc φ ρ (.fsl (33 + i) zeroS zeroS (.var (33 + i))) = some (xs i))
  nat : ∀ k, 33 ≤ k → k < 64 → 0 ≤ ρ k ∧ ρ k ≤ 9223372036854775807
  top : ∀ k, 33 + n ≤ k → k < 64 → ρ k = 0
/-- rows of 1 to 1000 bytes -/
def GoodH (ρ : Nat → Int) (i : Nat) : Prop := ∀ j, j < i → 1 ≤ ρ (33 + j) ∧ ρ (33 + j) ≤ 1000
theorem upR_get (f : Nat → Int × Int) : ∀ (m s i : Nat), nthR (upR f m s) i = if i < m then some (f (s + i)) else none
  | 0, s, i => by rw [if_neg (by omega)]; rfl
  | m + 1, s, i => by
    have e : upR f (m + 1) s = f s :: upR f m (s + 1) := rfl
    rw [e]
    cases i with
    | zero => rw [if_pos (by omega)]; rfl
    | succ i =>
      rw [show nthR (f s :: upR f m (s + 1)) (i + 1) = nthR (upR f m (s + 1)) i from rfl, upR_get f m (s + 1) i, show s + 1 + i = s + (i + 1) by omega]
      by_cases h : i < m
      · rw [if_pos h, if_pos (by omega)]
      · rw [if_neg h, if_neg (by omega)]
theorem rgOk_upR {ρ : Nat → Int} {f : Nat → Int × Int} {m : Nat} (h : ∀ k, k < m → (f k).1 ≤ ρ k ∧ ρ k ≤ (f k).2) : RgOk ρ (upR f m 0) := by
  intro i l hh hi
  rw [upR_get, Nat.zero_add] at hi
  split at hi
  · rename_i hm
    have := h i hm
    simp only [Option.some.injEq] at hi
    rw [hi] at this
    exact this
  · cases hi
theorem cR_eq (a b : Int × Int) (c : Bool) : cR a b c = if c then a else b := by cases c <;> rfl
theorem rgN_ok {W : World} {ρ : Nat → Int} {q : Option Addr} {n c : Nat} {xs : Nat → Value} (G : GivenH W ρ q n c xs) (g : GoodH ρ n) : RgOk ρ (rgN n) := by
  refine rgOk_upR fun k hk => ?_
  simp only [cR_eq, natBlt, decide_eq_true_eq, show Nat.add 33 n = 33 + n from rfl]
  by_cases h : k < 33
  · rw [if_pos h, G.z k h]; exact ⟨Int.le_refl _, Int.le_refl _⟩
  · rw [if_neg h]
    by_cases h1 : k < 33 + n
    · rw [if_pos h1]
      have := g (k - 33) (by omega)
      rw [show 33 + (k - 33) = k by omega] at this
      exact this
    · rw [if_neg h1, G.top k (by omega) (by omega)]; exact ⟨Int.le_refl _, Int.le_refl _⟩
theorem rgI_ok {W : World} {ρ : Nat → Int} {q : Option Addr} {n c : Nat} {xs : Nat → Value} (G : GivenH W ρ q n c xs) {i : Nat} {lo hi : Int} (h : lo ≤ ρ (33 + i) ∧ ρ (33 + i) ≤ hi) : RgOk ρ (rgI i lo hi) := by
  refine rgOk_upR fun k hk => ?_
  simp only [cR_eq, natBlt, natBeq, decide_eq_true_eq, show Nat.add 33 i = 33 + i from rfl]
  by_cases h0 : k < 33
  · rw [if_pos h0, G.z k h0]; exact ⟨Int.le_refl _, Int.le_refl _⟩
  · rw [if_neg h0]
    by_cases h1 : k = 33 + i
    · rw [if_pos h1, h1]; exact h
    · rw [if_neg h1]; exact G.nat k (by omega) (by omega)
theorem moreH {W : World} {ρ : Nat → Int} {q : Option Addr} {n c : Nat} {xs : Nat → Value} (G : GivenH W ρ q n c xs) {i : Nat} {b : Bool} (hb : decide (i < n) = b) : ∀ x ∈ moreF i b, x.1.ev ρ = x.2 := by
  intro x hx
  rcases List.mem_cons.1 hx with rfl | hx
  · show decide (Int.ofNat i < ρ 304) = b
    rw [G.len, ← hb]
    simp
  · obtain rfl := List.mem_singleton.1 hx
    show decide ((0 : Int) ≤ ρ 304) = true
    rw [G.len]
    exact decide_eq_true (by omega)
theorem lastH {W : World} {ρ : Nat → Int} {q : Option Addr} {n c : Nat} {xs : Nat → Value} (G : GivenH W ρ q n c xs) : ∀ x ∈ lastF n, x.1.ev ρ = x.2 := by
  intro x hx
  rcases List.mem_cons.1 hx with rfl | hx
  · show (Int.ofNat n == ρ 304) = true
    rw [G.len]
    simp
  · exact moreH G (decide_eq_false (by omega)) x hx
theorem rdH {W : World} {ρ : Nat → Int} {q : Option Addr} {n c : Nat} {xs : Nat → Value} (G : GivenH W ρ q n c xs) {i : Nat} (hi : i < n) {u : AV} (hu : ∀ φ, conc φ ρ u = some (xs i)) : RdH ρ W (.lit (.ofNat i)) u := by
  obtain ⟨b, hb, h1, h2⟩ := G.cell i hi
  exact ⟨b, n, c, i, xs i, ⟨by rw [G.adr, hb], by rw [G.len]; rfl, G.cap, rfl, hi, hu⟩, h1, h2⟩
/-- all that the runs say -/
structure AllH : Prop where
  b : allE begR thirtyF = true
  o : ∀ i, i < 30 → hpO i = true
  l : ∀ i, i < 30 → hpL i = true
  e : ∀ i, i < 30 → hpE i = true
  z : ∀ i, i < 30 → hpZ i = true
  x : ∀ n, n ≤ 30 → hpX n = true
  s : ∀ n m, n ≤ 30 → m < n → hpS n m = true
  y : ∀ n, n ≤ 30 → hpY n = true
  r : ∀ n i, n ≤ 30 → i < n → hpR n i = true
  w : ∀ n, n ≤ 30 → hpW n = true
  okO : ∀ i, i ≤ 30 → (patO i).okB 193 = true
  okS : ∀ n m, n ≤ 30 → m ≤ n → (patS n m).okB 193 = true
  okR : ∀ n i, n ≤ 30 → i ≤ n → (patR n i).okB 193 = true
theorem patO_0 (i : Nat) : ((patO i).ts 193).get 0 = some outV := rfl
theorem patO_8 (i : Nat) : ((patO i).ts 193).get 8 = some (nI i) := rfl
theorem rowU_eq (i : Nat) : rowU i = .fsl (33 + i) zeroS zeroS (.var (33 + i)) := forceN_eq _ _
/-- an opening -/
theorem stepO (R : AllH) {W : World} {ρ : Nat → Int} {q : Option Addr} {n c : Nat} {xs : Nat → Value} (G : GivenH W ρ q n c xs) {i : Nat} (hi : i < n) {a : Act} {w : World} (hat : AtH W (patO i) ρ a w) :
    loopO.wp Tryz.prog (fun e a' w' => (e = .normal ∧ AtH W (patO (i + 1)) ρ a' w' ∧ 1 ≤ ρ (33 + i) ∧ ρ (33 + i) ≤ 1000) ∨ (e = .ret ∧ BP W a' w')) a w := by
  have hn := G.le
  have z : ∀ k, k < 32 → ρ k = 0 := fun k hk => G.z k (by omega)
  have hb := G.nat (33 + i) (by omega) (by omega)
  have hm := moreH G (b := true) (decide_eq_true hi)
  have less := at_less (R.okO i (by omega)) z hat (patO_0 i) (patO_8 i)
  have ret : ∀ {u : AV} {lo hi' : Int}, allE (bodyL loopO (patE i) (.lit (.ofNat i)) u (moreF i true) (rgI i lo hi')) (moreF i true) = true → (∀ φ, conc φ ρ u = some (xs i)) → lo ≤ ρ (33 + i) ∧ ρ (33 + i) ≤ hi' →
      loopO.wp Tryz.prog (fun e a' w' => (e = .normal ∧ AtH W (patO (i + 1)) ρ a' w' ∧ 1 ≤ ρ (33 + i) ∧ ρ (33 + i) ≤ 1000) ∨ (e = .ret ∧ BP W a' w')) a w := fun hr hu hl =>
    Code.wp_mono (fun e a' w' h => .inr h) (roundL_ok loopO_c hr less (rgI_ok G hl) hm (rdH G hi hu))
  rcases G.row i hi with ⟨qa, l, k, hx, x0, x3, xa, hl⟩ | ⟨hle, hc⟩
  · have hu : ∀ φ, conc φ ρ (oslU i) = some (xs i) := fun φ => by
      rw [show oslU i = .osl (500 + 4 * (33 + i)) (33 + i) (503 + 4 * (33 + i)) from forceN_eq _ _]
      rw [show 500 + 4 * (33 + i) + 3 = 503 + 4 * (33 + i) by omega] at x3
      simp only [conc, xa, x0, x3, hx, Int.toNat_natCast]
    rcases hl with rfl | hl
    · exact ret (R.z i (by omega)) hu (by rw [x0]; exact ⟨Int.le_refl _, Int.le_refl _⟩)
    · exact ret (R.l i (by omega)) hu ⟨by rw [x0]; show (1001 : Int) ≤ _; omega, hb.2⟩
  · have hu : ∀ φ, conc φ ρ (rowU i) = some (xs i) := by rw [rowU_eq]; exact hc
    by_cases h0 : ρ (33 + i) = 0
    · exact ret (R.e i (by omega)) hu (by rw [h0]; exact ⟨Int.le_refl _, Int.le_refl _⟩)
    · have hl : (1 : Int) ≤ ρ (33 + i) ∧ ρ (33 + i) ≤ 1000 := ⟨by omega, hle⟩
      exact Code.wp_mono (fun e a' w' h => h.elim (fun h => .inl ⟨h.1, h.2, hl⟩) .inr) (round_ok loopO_c (R.okO (i + 1) (by omega)) (R.o i (by omega)) z hat (rgI_ok G hl) hm (rdH G hi hu))
def QB (W : World) : Exit → Act → World → Prop := bodyPost Tryz.prog Tryz.f3 (fun e w' => e = .returned (.bool true) ∧ Kp [] W w')
def QO (W : World) (e : Exit) (a : Act) (w : World) : Prop := (e = .exit 0 ∧ rest8.wp Tryz.prog (QB W) a w) ∨ (e = .ret ∧ BP W a w)
def QS (W : World) (e : Exit) (a : Act) (w : World) : Prop := (e = .exit 2 ∧ rest10.wp Tryz.prog (QB W) a w) ∨ (e = .ret ∧ BP W a w)
def QR (W : World) (e : Exit) (a : Act) (w : World) : Prop := (e = .exit 4 ∧ postC.wp Tryz.prog (QB W) a w) ∨ (e = .ret ∧ BP W a w)
theorem onX_inv {D : Dn} {k : Nat} {κ : St → Ts → R} {e : Ex} {s : St} {t : Ts} (h : onX k κ e s t ∈ D) : e = .exit k ∧ κ s t ∈ D := by
  cases e with
  | normal => cases h
  | ret => cases h
  | exit i =>
    obtain ⟨hb, h1⟩ := brec_inv (show Bool.rec (motive := fun _ => R) (.fail 977) (κ s t) (Nat.beq i k) ∈ D from h)
    rw [natBeq, decide_eq_true_eq] at hb
    exact ⟨by rw [hb], h1⟩
theorem onN_inv {D : Dn} {κ : St → Ts → R} {e : Ex} {s : St} {t : Ts} (h : onN κ e s t ∈ D) : e = .normal ∧ κ s t ∈ D := by
  cases e with
  | normal => exact ⟨rfl, h⟩
  | ret => cases h
  | exit i => cases h
theorem numV_conc {φ : List Pl} {ρ : Nat → Int} : ∀ n : Nat, conc φ ρ (numV n) = some (.int .i64 ((n : Int) - 1))
  | 0 => rfl
  | n + 1 => by
    show some (Value.int .i64 (Int.ofNat n)) = _
    rw [show ((n + 1 : Nat) : Int) - 1 = Int.ofNat n by simp]
/-- the number of rows less one -/
theorem setM_ok {D : Dn} {m : Nat} {s : St} {t : Ts} {κ : Ts → R} (h : setM m s t κ ∈ D) {ρ : Nat → Int} (hm : ρ 304 = m) (h30 : m ≤ 30) : κ (t.set 12 (numV m)) ∈ D ∧ ∀ {φ a}, GA φ ρ t 193 a → GA φ ρ (t.set 12 (numV m)) 193 a := by
  obtain ⟨hb, h1⟩ := brec_inv (show Bool.rec (motive := fun _ => R) (.fail 980) (κ (t.set 12 (numV m))) (match t.get 12 with | some (.int .i64 (.bin .add .i64 (.var 304) (.lit (.negSucc 0)))) => true | _ => false) ∈ D from h)
  refine ⟨h1, fun {φ a} hg => ?_⟩
  split at hb
  · rename_i h12
    refine ⟨hg.size, fun d v hv => ?_, ?_⟩
    · have hv : Tr.get (Tr.set t 12 (numV m)) d = some v := hv
      rw [Tr.get_set] at hv
      split at hv
      · rename_i hd
        cases hv
        subst hd
        rw [numV_conc, ← hg.tm _ _ h12]
        show _ = some (Value.int .i64 (IntKind.i64.wrap (ρ 304 + -1)))
        rw [hm, wrap_i64']
        congr 2
        omega
      · exact hg.tm d v hv
    · rw [show Ts.get (Tr.set t 12 (numV m)) 193 = Ts.get t 193 from (Tr.get_set t 12 (numV m) 193).trans (if_neg (by decide))]
      exact hg.df
  · cases hb
set_option maxRecDepth 100000 in
/-- all are open -/
theorem exitO (R : AllH) {W : World} {ρ : Nat → Int} {q : Option Addr} {n c : Nat} {xs : Nat → Value} (G : GivenH W ρ q n c xs) (g : GoodH ρ n) {a : Act} {w : World} (hat : AtH W (patO n) ρ a w) (hgo : ∀ a w, AtH W (patS n n) ρ a w → (Code.loop loopS).wp Tryz.prog (QS W) a w) : loopO.wp Tryz.prog (QO W) a w := by
  have hn := G.le
  have z : ∀ k, k < 32 → ρ k = 0 := fun k hk => G.z k (by omega)
  have hrg := rgN_ok G g
  obtain ⟨V, S, h1, h4⟩ := allE_inv (ρ := ρ) (R.x n hn) (lastH G)
  obtain ⟨w0, φ, hW, hg, hm⟩ := hat
  have hm : Gm Tryz.prog ρ w0 φ (begS (patO n) (lastF n) (rgN n)) w := hm.pc ⟨lastF n, [[]], rgN n⟩
  obtain ⟨e, s1, t1, e1, x1, q1⟩ := ihA_ok ρ (f := 3) (sz := 193) (c := headC loopO) loopO_c.h (show ihA 3 193 (headC loopO) (begS (patO n) (lastF n) (rgN n)) ((patO n).ts 193) (onX 0 fun s t => ihA 3 193 m18C s t (onN fun s t => ihA 3 193 r20C s t (onN fun s t => setM n s t fun t => matE (patS n n) s t))) ∈ Dn.mk ρ V S from h1)
  obtain ⟨rfl, e1⟩ := onX_inv e1
  obtain ⟨e, s2, t2, e2, x2, q2⟩ := ihA_ok ρ (f := 3) (sz := 193) (c := m18C) c18 e1
  obtain ⟨rfl, e2⟩ := onN_inv e2
  obtain ⟨e, s3, t3, e3, x3, q3⟩ := ihA_ok ρ (f := 3) (sz := 193) (c := r20C) c20 e2
  obtain ⟨rfl, e3⟩ := onN_inv e3
  obtain ⟨e3, g3'⟩ := setM_ok (s := s3) (κ := fun t => matE (patS n n) s3 t) e3 G.len hn
  obtain ⟨f1, f3⟩ := matE_ok (R.okS n n hn (Nat.le_refl _)) e3
  have hρ : Holds ρ s3.pc := ⟨by rw [← f1]; exact h4, by rw [(x1.trans (x2.trans x3)).rg]; exact hrg⟩
  rw [loopO_c.eq]
  refine wp_seq (Code.wp_mono (fun e a1 w1 hp1 => ?_) (q1 (hρ.of_ext (x2.trans x3)) hg hm))
  obtain ⟨rfl, φ1, p1, g1, m1⟩ := hp1
  refine .inl ⟨rfl, ?_⟩
  rw [rest8_eq]
  refine wp_seq (Code.wp_mono (fun e a2 w2 hp2 => ?_) (q2 (hρ.of_ext x3) g1 m1))
  obtain ⟨rfl, φ2, p2, g2, m2⟩ := hp2
  show (Code.seq (.seq r20C (.block 2 (.loop loopS))) rest10).wp Tryz.prog _ a2 w2
  refine wp_seq (wp_seq (Code.wp_mono (fun e a3 w3 hp3 => ?_) (q3 hρ g2 m2)))
  obtain ⟨rfl, φ3, p3, g3, m3⟩ := hp3
  show (Code.block 2 (.loop loopS)).wp Tryz.prog _ a3 w3
  have hat3 := f3 z hρ (g3' g3) m3
  rw [hW] at hat3
  refine wp_block (Code.wp_mono (fun e a4 w4 hp4 => ?_) (hgo a3 w3 hat3))
  rcases hp4 with ⟨rfl, h⟩ | ⟨rfl, h⟩
  · exact h
  · exact h
set_option maxRecDepth 100000 in
/-- all are sent -/
theorem exitS (R : AllH) {W : World} {ρ : Nat → Int} {q : Option Addr} {n c : Nat} {xs : Nat → Value} (G : GivenH W ρ q n c xs) (g : GoodH ρ n) {a : Act} {w : World} (hat : AtH W (patS n 0) ρ a w) (hgo : ∀ a w, AtH W (patR n 0) ρ a w → (Code.loop loopR).wp Tryz.prog (QR W) a w) : loopS.wp Tryz.prog (QS W) a w := by
  have hn := G.le
  have z : ∀ k, k < 32 → ρ k = 0 := fun k hk => G.z k (by omega)
  have hrg := rgN_ok G g
  obtain ⟨V, S, h1, h4⟩ := allE_inv (ρ := ρ) (R.y n hn) (fun x hx => by cases hx)
  obtain ⟨w0, φ, hW, hg, hm⟩ := hat
  have hm : Gm Tryz.prog ρ w0 φ (begS (patS n 0) [] (rgN n)) w := hm.pc ⟨[], [[]], rgN n⟩
  obtain ⟨e, s1, t1, e1, x1, q1⟩ := ihA_ok ρ (f := 3) (sz := 193) (c := headC loopS) loopS_c.h (show ihA 3 193 (headC loopS) (begS (patS n 0) [] (rgN n)) ((patS n 0).ts 193) (onX 2 fun s t => ihA 3 193 r26C s t (onN fun s t => matE (patR n 0) s t)) ∈ Dn.mk ρ V S from h1)
  obtain ⟨rfl, e1⟩ := onX_inv e1
  obtain ⟨e, s2, t2, e2, x2, q2⟩ := ihA_ok ρ (f := 3) (sz := 193) (c := r26C) c26 e1
  obtain ⟨rfl, e2⟩ := onN_inv e2
  obtain ⟨f1, f3⟩ := matE_ok (R.okR n 0 hn (Nat.zero_le _)) e2
  have hρ : Holds ρ s2.pc := ⟨by rw [← f1]; exact h4, by rw [(x1.trans x2).rg]; exact hrg⟩
  rw [loopS_c.eq]
  refine wp_seq (Code.wp_mono (fun e a1 w1 hp1 => ?_) (q1 (hρ.of_ext x2) hg hm))
  obtain ⟨rfl, φ1, p1, g1, m1⟩ := hp1
  refine .inl ⟨rfl, ?_⟩
  rw [rest10_eq]
  refine wp_seq (wp_seq (Code.wp_mono (fun e a3 w3 hp3 => ?_) (q2 hρ g1 m1)))
  obtain ⟨rfl, φ3, p3, g3, m3⟩ := hp3
  show (Code.block 4 (.loop loopR)).wp Tryz.prog _ a3 w3
  have hat3 := f3 z hρ g3 m3
  rw [hW] at hat3
  refine wp_block (Code.wp_mono (fun e a4 w4 hp4 => ?_) (hgo a3 w3 hat3))
  rcases hp4 with ⟨rfl, h⟩ | ⟨rfl, h⟩
  · exact h
  · exact h
set_option maxRecDepth 100000 in
/-- all are received -/
theorem exitR (R : AllH) {W : World} {ρ : Nat → Int} {q : Option Addr} {n c : Nat} {xs : Nat → Value} (G : GivenH W ρ q n c xs) (g : GoodH ρ n) {a : Act} {w : World} (hat : AtH W (patR n n) ρ a w) : loopR.wp Tryz.prog (QR W) a w := by
  have hn := G.le
  have hrg := rgN_ok G g
  obtain ⟨V, S, h1, h4⟩ := allE_inv (ρ := ρ) (R.w n hn) (moreH G (decide_eq_false (by omega)))
  obtain ⟨w0, φ, hW, hg, hm⟩ := hat
  have hm : Gm Tryz.prog ρ w0 φ (begS (patR n n) (moreF n false) (rgN n)) w := hm.pc ⟨moreF n false, [[]], rgN n⟩
  obtain ⟨e, s1, t1, e1, x1, q1⟩ := ihA_ok ρ (f := 3) (sz := 193) (c := headC loopR) loopR_c.h (show ihA 3 193 (headC loopR) (begS (patR n n) (moreF n false) (rgN n)) ((patR n n).ts 193) (onX 4 fun s t => ihA 3 193 (lftC postC) s t (onN fun s t => ihA 3 193 (lftC (rgtC postC)) s t (onN fun s t => lostR s t))) ∈ Dn.mk ρ V S from h1)
  obtain ⟨rfl, e1⟩ := onX_inv e1
  obtain ⟨e, s2, t2, e2, x2, q2⟩ := ihA_ok ρ (f := 3) (sz := 193) (c := lftC postC) cP1 e1
  obtain ⟨rfl, e2⟩ := onN_inv e2
  obtain ⟨e, s3, t3, e3, x3, q3⟩ := ihA_ok ρ (f := 3) (sz := 193) (c := lftC (rgtC postC)) cP2 e2
  obtain ⟨rfl, e3⟩ := onN_inv e3
  obtain ⟨f1, f2⟩ := lostR_ok e3
  have hρ : Holds ρ s3.pc := ⟨by rw [← f1]; exact h4, by rw [(x1.trans (x2.trans x3)).rg]; exact hrg⟩
  rw [loopR_c.eq]
  refine wp_seq (Code.wp_mono (fun e a1 w1 hp1 => ?_) (q1 (hρ.of_ext (x2.trans x3)) hg hm))
  obtain ⟨rfl, φ1, p1, g1, m1⟩ := hp1
  refine .inl ⟨rfl, ?_⟩
  rw [postC_eq]
  refine wp_seq (Code.wp_mono (fun e a2 w2 hp2 => ?_) (q2 (hρ.of_ext x3) g1 m1))
  obtain ⟨rfl, φ2, p2, g2, m2⟩ := hp2
  show (Code.seq (lftC (rgtC postC)) .ret).wp Tryz.prog _ a2 w2
  refine wp_seq (Code.wp_mono (fun e a3 w3 hp3 => ?_) (q3 hρ g2 m2))
  obtain ⟨rfl, φ3, p3, g3, m3⟩ := hp3
  show Code.ret.wp Tryz.prog _ a3 w3
  refine wp_ret ?_
  have := f2 g3 m3
  rw [hW] at this
  exact this
theorem loop_R (R : AllH) {W : World} {ρ : Nat → Int} {q : Option Addr} {n c : Nat} {xs : Nat → Value} (G : GivenH W ρ q n c xs) (g : GoodH ρ n) : ∀ (m i : Nat), i + m = n → ∀ {a : Act} {w : World}, AtH W (patR n i) ρ a w → (Code.loop loopR).wp Tryz.prog (QR W) a w := by
  have hn := G.le
  have z : ∀ k, k < 32 → ρ k = 0 := fun k hk => G.z k (by omega)
  have nout : ∀ a w, ¬ QR W .outgrown a w := fun a w h => by rcases h with h | h <;> cases h.1
  have ngo : ∀ l a w, ¬ QR W (.goto l) a w := fun l a w h => by rcases h with h | h <;> cases h.1
  intro m
  induction m with
  | zero =>
    intro i him a w hat
    obtain rfl : i = n := by omega
    refine wp_loop_unroll nout ngo (Code.wp_mono (fun e a' w' hp => ?_) (exitR R G g hat))
    rcases hp with ⟨rfl, h⟩ | ⟨rfl, h⟩
    · exact .inl ⟨rfl, h⟩
    · exact .inr ⟨rfl, h⟩
  | succ m ih =>
    intro i him a w hat
    have hi : i < n := by omega
    have hu : ∀ φ, conc φ ρ (rowU i) = some (xs i) := by
      rcases G.row i hi with ⟨qa, l, k, hx, x0, _, _, hl⟩ | hc
      · have := g i hi
        rw [x0] at this
        omega
      · rw [rowU_eq]; exact hc.2
    refine wp_loop_unroll nout ngo (Code.wp_mono (fun e a' w' hp => ?_) (round_ok loopR_c (R.okR n (i + 1) hn (by omega)) (R.r n i hn hi) z hat (rgN_ok G g) (moreH G (decide_eq_true hi)) (rdH G hi hu)))
    rcases hp with ⟨rfl, h⟩ | ⟨rfl, h⟩
    · exact ih (i + 1) (by omega) h
    · exact .inr ⟨rfl, h⟩
theorem loop_S (R : AllH) {W : World} {ρ : Nat → Int} {q : Option Addr} {n c : Nat} {xs : Nat → Value} (G : GivenH W ρ q n c xs) (g : GoodH ρ n) : ∀ (m : Nat), m ≤ n → ∀ {a : Act} {w : World}, AtH W (patS n m) ρ a w → (Code.loop loopS).wp Tryz.prog (QS W) a w := by
  have hn := G.le
  have z : ∀ k, k < 32 → ρ k = 0 := fun k hk => G.z k (by omega)
  have nout : ∀ a w, ¬ QS W .outgrown a w := fun a w h => by rcases h with h | h <;> cases h.1
  have ngo : ∀ l a w, ¬ QS W (.goto l) a w := fun l a w h => by rcases h with h | h <;> cases h.1
  intro m
  induction m with
  | zero =>
    intro _ a w hat
    refine wp_loop_unroll nout ngo (Code.wp_mono (fun e a' w' hp => ?_) (exitS R G g hat (fun a w h => loop_R R G g n 0 (by omega) h)))
    rcases hp with ⟨rfl, h⟩ | ⟨rfl, h⟩
    · exact .inl ⟨rfl, h⟩
    · exact .inr ⟨rfl, h⟩
  | succ m ih =>
    intro hm a w hat
    have hi : m < n := by omega
    have hu : ∀ φ, conc φ ρ (rowU m) = some (xs m) := by
      rcases G.row m hi with ⟨qa, l, k, hx, x0, _, _, hl⟩ | hc
      · have := g m hi
        rw [x0] at this
        omega
      · rw [rowU_eq]; exact hc.2
    refine wp_loop_unroll nout ngo (Code.wp_mono (fun e a' w' hp => ?_) (round_ok loopS_c (R.okS n m hn (by omega)) (R.s n m hn hi) z hat (rgN_ok G g) (fun x hx => by cases hx) (rdH G hi hu)))
    rcases hp with ⟨rfl, h⟩ | ⟨rfl, h⟩
    · exact ih (by omega) h
    · exact .inr ⟨rfl, h⟩
theorem loop_O (R : AllH) {W : World} {ρ : Nat → Int} {q : Option Addr} {n c : Nat} {xs : Nat → Value} (G : GivenH W ρ q n c xs) : ∀ (m i : Nat), i + m = n → GoodH ρ i → ∀ {a : Act} {w : World}, AtH W (patO i) ρ a w → (Code.loop loopO).wp Tryz.prog (QO W) a w := by
  have hn := G.le
  have nout : ∀ a w, ¬ QO W .outgrown a w := fun a w h => by rcases h with h | h <;> cases h.1
  have ngo : ∀ l a w, ¬ QO W (.goto l) a w := fun l a w h => by rcases h with h | h <;> cases h.1
  intro m
  induction m with
  | zero =>
    intro i him g a w hat
    obtain rfl : i = n := by omega
    refine wp_loop_unroll nout ngo (Code.wp_mono (fun e a' w' hp => ?_) (exitO R G g hat (fun a w h => loop_S R G g i (Nat.le_refl _) h)))
    rcases hp with ⟨rfl, h⟩ | ⟨rfl, h⟩
    · exact .inl ⟨rfl, h⟩
    · exact .inr ⟨rfl, h⟩
  | succ m ih =>
    intro i him g a w hat
    refine wp_loop_unroll nout ngo (Code.wp_mono (fun e a' w' hp => ?_) (stepO R G (by omega) hat))
    rcases hp with ⟨rfl, h, hl⟩ | ⟨rfl, h⟩
    · refine ih (i + 1) (by omega) (fun j hj => ?_) h
      rcases Nat.lt_or_ge j i with hji | hji
      · exact g j hji
      · obtain rfl : j = i := by omega
        exact hl
    · exact .inr ⟨rfl, h⟩
theorem ga_start {ρ : Nat → Int} {q : Option Addr} {n c : Nat} (h1 : conc [] ρ outV = some (.slice q n c)) (R : Array Value) (hR : R.size = 192) : GA [] ρ (tsOf 193 [outV]) 193 { tmps := #[.slice q n c] ++ R, defers := [] } := by
  have a0 : ∀ x : Value, (#[x] ++ R).getD 0 undef = x := fun x => by simp [Array.getD_eq_getD_getElem?, Array.getElem?_append]
  refine ⟨by simp [hR], fun d v hv => ?_, ?_⟩
  · have hd := tsOf_get hv
    match d, hd with
    | 0, hd =>
      cases hd
      rw [h1]
      exact congrArg some (a0 _).symm
    | k + 1, hd => cases hd
  · cases hd : (tsOf 193 [outV]).get 193 with
    | none => exact .none
    | some v =>
      have := tsOf_get hd
      cases this
set_option maxRecDepth 100000 in
theorem main_okH (R : AllH) {W : World} {ρ : Nat → Int} {q : Option Addr} {n c : Nat} {xs : Nat → Value} (G : GivenH W ρ q n c xs) (hfo : FoOk ρ W) : Calls Tryz.prog 3 #[.slice q n c] W fun e w' => e = .returned (.bool true) ∧ Kp [] W w' := by
  have hn := G.le
  have z : ∀ k, k < 32 → ρ k = 0 := fun k hk => G.z k (by omega)
  refine calls_of_wp (c := bodyF) Tryz.func3 (by kernel_rfl) ?_
  have hth : ∀ x ∈ thirtyF, x.1.ev ρ = x.2 := by
    intro x hx
    rcases List.mem_cons.1 hx with rfl | hx
    · show decide ((30 : Int) < ρ 304) = false
      rw [G.len]
      exact decide_eq_false (by omega)
    · obtain rfl := List.mem_singleton.1 hx
      show decide ((0 : Int) ≤ ρ 304) = true
      rw [G.len]
      exact decide_eq_true (by omega)
  obtain ⟨V, S, h1, h4⟩ := allE_inv (ρ := ρ) R.b hth
  have h1' : evL ihA 3 193 begP ⟨.nil, nat_lit 0, ⟨thirtyF, [[]], []⟩⟩ (tsOf 193 [outV]) (onN fun s t => ihA 3 193 r9C s t (onN fun s t => matE (patO 0) s t)) ∈ Dn.mk ρ V S := h1
  obtain ⟨e, s1, t1, e1, x1, q1⟩ := evL_sound (ihA_ok ρ) cBegP h1'
  obtain ⟨rfl, e1⟩ := onN_inv e1
  obtain ⟨e, s2, t2, e2, x2, q2⟩ := ihA_ok ρ (f := 3) (sz := 193) (c := r9C) c9 e1
  obtain ⟨rfl, e2⟩ := onN_inv e2
  obtain ⟨f1, f3⟩ := matE_ok (R.okO 0 (by omega)) e2
  have hρ : Holds ρ s2.pc := ⟨by rw [← f1]; exact h4, by rw [(x1.trans x2).rg]; exact rgOk_nil⟩
  have hosl : conc [] ρ outV = some (.slice q n c) := by
    unfold outV
    simp only [conc, G.adr, G.len, G.cap, Int.toNat_natCast]
  have g0 := ga_start hosl (Array.replicate (Tryz.f3.ntmps - (#[Value.slice q n c] : Array Value).size) undef) (by rw [Array.size_replicate, show Tryz.f3.ntmps = 193 by kernel_rfl]; rfl)
  rw [body_eq]
  refine q1 (w0 := ⟨W, []⟩) (hρ.of_ext x2) g0 (Gm.start W hfo _ _ _) _ _ fun a1 w1 hp1 => ?_
  obtain ⟨_, φ1, p1, g1, m1⟩ := hp1
  show (Code.seq (.seq r9C (.block 0 (.loop loopO))) rest8).wp Tryz.prog _ a1 w1
  refine wp_seq (wp_seq (Code.wp_mono (fun e b2 w2 hp2 => ?_) (q2 hρ g1 m1)))
  obtain ⟨rfl, φ2, p2, g2, m2⟩ := hp2
  have hat : AtH W (patO 0) ρ b2 w2 := f3 z hρ g2 m2
  show (Code.block 0 (.loop loopO)).wp Tryz.prog _ b2 w2
  refine wp_block (Code.wp_mono (fun e b3 w3 hp3 => ?_) (loop_O R G n 0 (by omega) (fun j hj => by omega) hat))
  rcases hp3 with ⟨rfl, h⟩ | ⟨rfl, h⟩
  · exact h
  · exact h
end Go.Proofs.YtooebogidjejoaaGreat
