/-
  WorldDatagrams: what it is given; a call as a whole.
-/
import Derived.Test.YtmifojdpdbjodaaGreatWdn
import Derived.Test.YtmifojdpdbjodaaGreatRows
import Derived.ChangeSlices
set_option linter.unusedVariables false
set_option linter.unusedSimpArgs false
namespace Go.Proofs.YtmifojdpdbjodaaGreat
open Go Go.RowKit Go.ChangeShapes Go.WideShapes

theorem ga_start {ρ : Nat → Int} {q : Option Addr} {n c : Nat} {port : Int} (h0 : ρ 1 = port) (h1 : conc [] ρ (.osl 300 304 303) = some (.slice q n c)) (R : Array Value) (hR : R.size = 146) : GA [] ρ (tsOf 148 [.int .i64 (.var 1), .osl 300 304 303]) 148 { tmps := #[.int .i64 port, .slice q n c] ++ R, defers := [] } := by
  have a0 : ∀ x y : Value, (#[x, y] ++ R).getD 0 undef = x := fun x y => by simp [Array.getD_eq_getD_getElem?, Array.getElem?_append]
  have a1 : ∀ x y : Value, (#[x, y] ++ R).getD 1 undef = y := fun x y => by simp [Array.getD_eq_getD_getElem?, Array.getElem?_append]
  refine ⟨by simp [hR], fun d v hv => ?_, ?_⟩
  · have hd := tsOf_get hv
    match d, hd with
    | 0, hd =>
      cases hd
      show some (Value.int .i64 (ρ 1)) = _
      rw [h0]
      exact congrArg some (a0 _ _).symm
    | 1, hd =>
      cases hd
      rw [h1]
      exact congrArg some (a1 _ _).symm
    | k + 2, hd => cases hd
  · cases hd : (tsOf 148 [.int .i64 (.var 1), .osl 300 304 303]).get 148 with
    | none => exact .none
    | some v =>
      have := tsOf_get hd
      cases this
set_option maxRecDepth 100000 in
theorem main_okW (R : AllR) {W : World} {ρ0 : Nat → Int} {q : Option Addr} {n c : Nat} {xs : Nat → Value} {port : Int} (G : GivenW W ρ0 q n c xs) (hp : ρ0 1 = port) (z : ∀ k, k < 33 → k ≠ 1 → ρ0 k = 0) (hfo : FoOk ρ0 W) : Calls Tryz.prog 3 #[.int .i64 port, .slice q n c] W fun e w' => e = .returned (.bool true) ∧ Kp [] W w' := by
  have hn := G.le
  refine calls_of_wp (c := bodyF) Tryz.func3 (by kernel_rfl) ?_
  have hten : ∀ x ∈ tenF, x.1.ev ρ0 = x.2 := by
    intro x hx
    rcases List.mem_cons.1 hx with rfl | hx
    · show decide ((10 : Int) < ρ0 304) = false
      rw [G.len]
      exact decide_eq_false (by omega)
    · obtain rfl := List.mem_singleton.1 hx
      show decide ((0 : Int) ≤ ρ0 304) = true
      rw [G.len]
      exact decide_eq_true (by omega)
  have hrg : RgOk ρ0 (rgS 0 0 0) := rgS_ok G.port (by rw [z 3 (by omega) (by omega)]; omega) (by rw [z 30 (by omega) (by omega)]; omega) (by rw [z 32 (by omega) (by omega)]; omega) ⟨z 0 (by omega) (by omega), z 2 (by omega) (by omega), fun k h1 h2 => z k (by omega) (by omega), z 31 (by omega) (by omega)⟩
  obtain ⟨V, S, h1, h4⟩ := allE_inv (ρ := ρ0) g_beg hten
  have h1' : evL ihA 3 148 begL ⟨.nil, nat_lit 0, ⟨tenF, [[]], rgS 0 0 0⟩⟩ (tsOf 148 [.int .i64 (.var 1), .osl 300 304 303]) (sumN (.lit (.ofNat 0)) (.lit (.ofNat 0))) ∈ Dn.mk ρ0 V S := h1
  rw [beg_split] at h1'
  obtain ⟨e, s1, t1, e1, x1, q1⟩ := evL_sound (ihA_ok ρ0) cBeg3 h1'
  cases e with
  | exit i => cases e1
  | ret => cases e1
  | normal =>
    obtain ⟨e, s2, t2, e2, x2, q2⟩ := ihA_ok ρ0 (f := 3) (sz := 148) (c := r4C) c4 (show ihA 3 148 r4C s1 t1 (thenR (sumN (.lit (.ofNat 0)) (.lit (.ofNat 0)))) ∈ Dn.mk ρ0 V S from e1)
    cases e with
    | exit i => cases e2
    | ret => cases e2
    | normal =>
      obtain ⟨f1, r, ⟨k1, k3, k30, kn⟩, f3⟩ := sumN_ok (show sumN (.lit (.ofNat 0)) (.lit (.ofNat 0)) .normal s2 t2 ∈ Dn.mk ρ0 V S from e2)
      have hρ : Holds ρ0 s2.pc := ⟨by rw [← f1]; exact h4, by rw [x2.rg, x1.rg]; exact hrg⟩
      have hosl : conc [] ρ0 (.osl 300 304 303) = some (.slice q n c) := by simp only [conc, G.adr, G.len, G.cap, Int.toNat_natCast]
      have g0 := ga_start (port := port) hp hosl (Array.replicate (Tryz.f3.ntmps - (#[Value.int .i64 port, .slice q n c] : Array Value).size) undef) (by rw [Array.size_replicate, show Tryz.f3.ntmps = 148 by kernel_rfl]; rfl)
      rw [body_eq2]
      refine q1 (w0 := ⟨W, []⟩) (hρ.of_ext x2) g0 (Gm.start W hfo _ _ _) _ _ fun a1 w1 hp1 => ?_
      obtain ⟨_, φ1, p1, g1, m1⟩ := hp1
      show (Code.seq (.seq r4C (.block 0 (.loop loopS))) restC).wp Tryz.prog _ a1 w1
      refine wp_seq (wp_seq (Code.wp_mono (fun e b2 w2 hp2 => ?_) (q2 hρ g1 m1)))
      obtain ⟨rfl, φ2, p2, g2, m2⟩ := hp2
      have hat : AtW W patS (r.rho ρ0) b2 w2 := f3 hρ g2 m2
      have hL : LetS (r.rho ρ0) ρ0 xs 0 := ⟨by rw [letR_ev r ρ0 (by omega), k1]; exact G.port, by rw [letR_ev r ρ0 (by omega), k3]; rfl, by rw [letR_ev r ρ0 (by omega), k30]; rfl, fun k h1 h2 => Ren.rho_hi ⟨h1, by omega⟩, fun a h1 h2 => by
        have e := r.rowEq ρ0 (a := a) ⟨by omega, h2⟩
        rw [nilN_row kn] at e
        exact e⟩
      show (Code.block 0 (.loop loopS)).wp Tryz.prog _ b2 w2
      refine wp_block (Code.wp_mono (fun e b3 w3 hp3 => ?_) (sum_loop R G n 0 (by omega) hat hL))
      obtain ⟨rfl, h⟩ := hp3
      exact h

/-! the letters of what it is given -/
abbrev RowF : Type := RowD × Option (Option Addr)
def codeA (x : Option Addr) (j : Nat) : Int := match x with
  | none => 0
  | some a => if j = 0 then a.block else if j = 1 then a.off else if j = 2 then (match a.spot with | none => 1 | some n => n + 2) else 0
def rhoX (port : Int) (q : Option Addr) (n c : Nat) (F : Nat → RowF) : Nat → Int := fun k =>
  if k < 32 then (if k = 1 then port else 0)
  else if k < 64 then (if 33 ≤ k ∧ k - 33 < n then (match (F (k - 33)).2 with | none => ((F (k - 33)).1.n : Int) | some _ => 0) else 0)
  else if k < 300 then 0
  else if k < 308 then adsG [(q, c), (some ⟨n, 0, none⟩, 0)] ((k - 300) / 4) ((k - 300) % 4)
  else if 632 ≤ k ∧ k < 756 then (if (k - 632) / 4 < n then (match (F ((k - 632) / 4)).2 with | none => (F ((k - 632) / 4)).1.at ((k - 632) % 4) | some x => codeA x ((k - 632) % 4)) else 0)
  else if k < 1000 then 0
  else (if 33 ≤ (k - 1000) % 64 ∧ (k - 1000) % 64 - 33 < n then (match (F ((k - 1000) % 64 - 33)).2 with | none => (F ((k - 1000) % 64 - 33)).1.zs.getD ((k - 1000) / 64) 0 | some _ => 0) else 0)
section
variable {port : Int} {q : Option Addr} {n c : Nat} {F : Nat → RowF}
theorem X_len {i : Nat} (hi : i < n) (hn : n ≤ 10) : rhoX port q n c F (33 + i) = match (F i).2 with | none => ((F i).1.n : Int) | some _ => 0 := by
  unfold rhoX
  rw [if_neg (by omega), if_pos (by omega), show 33 + i - 33 = i by omega, if_pos ⟨by omega, hi⟩]
theorem X_f {i j : Nat} (hi : i < n) (hn : n ≤ 10) (hj : j < 4) : rhoX port q n c F (500 + 4 * (33 + i) + j) = match (F i).2 with | none => (F i).1.at j | some x => codeA x j := by
  unfold rhoX
  rw [if_neg (by omega), if_neg (by omega), if_neg (by omega), if_neg (by omega), if_pos (by omega), show (500 + 4 * (33 + i) + j - 632) / 4 = i by omega, show (500 + 4 * (33 + i) + j - 632) % 4 = j by omega, if_pos hi]
theorem X_row {i j : Nat} (hi : i < n) (hn : n ≤ 10) (hF : (F i).2 = none) : rhoX port q n c F (rowIx (33 + i) j) = (F i).1.zs.getD j 0 := by
  unfold rhoX rowIx
  rw [if_neg (by omega), if_neg (by omega), if_neg (by omega), if_neg (by omega), if_neg (by omega), if_neg (by omega), show (1000 + 64 * j + (33 + i) - 1000) % 64 = 33 + i by omega, show (1000 + 64 * j + (33 + i) - 1000) / 64 = j by omega, show 33 + i - 33 = i by omega, if_pos ⟨by omega, hi⟩, hF]
theorem X_ads {j k : Nat} (hj : j < 4) (hk : k < 2) : rhoX port q n c F (300 + 4 * k + j) = adsG [(q, c), (some ⟨n, 0, none⟩, 0)] k j := by
  unfold rhoX
  rw [if_neg (by omega), if_neg (by omega), if_neg (by omega), if_pos (by omega), show (300 + 4 * k + j - 300) / 4 = k by omega, show (300 + 4 * k + j - 300) % 4 = j by omega]
theorem adrL_code {ρ : Nat → Int} {p : Nat} {x : Option Addr} (h : ∀ j, j < 3 → ρ (p + j) = codeA x j) : adrL ρ p = x := by
  have e0 := h 0 (by omega)
  have e1 := h 1 (by omega)
  have e2 := h 2 (by omega)
  rw [Nat.add_zero] at e0
  cases x with
  | none =>
    unfold adrL
    rw [e2]
    rfl
  | some a =>
    obtain ⟨b, o, sp⟩ := a
    unfold adrL
    rw [e0, e1, e2]
    cases sp with
    | none => rfl
    | some m =>
      simp only [codeA, show ¬ (2 : Nat) = 0 by omega, show ¬ (2 : Nat) = 1 by omega, if_false, if_true]
      have h1 : ¬ ((m : Int) + 2 = 0) := by omega
      have h2 : ¬ ((m : Int) + 2 = 1) := by omega
      rw [if_neg h1, if_neg h2]
      simp
theorem fM (a : Nat) : fMark a = 500 + 4 * a + 3 := by unfold fMark; omega
theorem fC (a : Nat) : fCap a = 500 + 4 * a + 2 := by unfold fCap; omega
theorem fO (a : Nat) : fOff a = 500 + 4 * a + 1 := by unfold fOff; omega
theorem fB (a : Nat) : fBlk a = 500 + 4 * a + 0 := by unfold fBlk; omega
theorem X_fo {W : World} (hn : n ≤ 10) (hF : ∀ i, i < n → (F i).2 = none → (F i).1.Ok W) : FoOk (rhoX port q n c F) W := by
  intro a h1 h2 h3
  rcases (by omega : a = 32 ∨ (33 ≤ a ∧ a - 33 < n) ∨ (33 ≤ a ∧ n ≤ a - 33)) with rfl | ⟨ha, hi⟩ | ⟨ha, hi⟩
  · exfalso
    have : rhoX port q n c F (fMark 32) = 0 := by
      unfold rhoX fMark
      rw [if_neg (by omega), if_neg (by omega), if_neg (by omega), if_neg (by omega), if_neg (by omega), if_pos (by omega)]
    rw [this] at h3
    cases h3
  · obtain ⟨i, rfl⟩ : ∃ i, a = 33 + i := ⟨a - 33, by omega⟩
    have hi : i < n := by omega
    have e3 : rhoX port q n c F (fMark (33 + i)) = match (F i).2 with | none => (F i).1.at 3 | some x => codeA x 3 := by rw [fM]; exact X_f (j := 3) hi hn (by omega)
    cases hem : (F i).2 with
    | some x =>
      rw [hem] at e3
      rw [e3] at h3
      exfalso
      cases x with
      | none =>
        have h3 : (0 : Int) = 1 := h3
        omega
      | some a =>
        have h3 : (0 : Int) = 1 := h3
        omega
    | none =>
      have ok := hF i hi hem
      have e2 : rhoX port q n c F (fCap (33 + i)) = (F i).1.at 2 := by rw [fC, X_f hi hn (by omega), hem]
      have e1 : rhoX port q n c F (fOff (33 + i)) = (F i).1.at 1 := by rw [fO, X_f hi hn (by omega), hem]
      have e0 : rhoX port q n c F (fBlk (33 + i)) = (F i).1.at 0 := by rw [fB, X_f hi hn (by omega), hem]
      have el : rhoX port q n c F (33 + i) = (F i).1.n := by rw [X_len hi hn, hem]
      rw [e0, e1, e2, el]
      generalize hr : (F i).1 = r at *
      show (0 : Int) ≤ (r.n : Int) ∧ ((r.n : Int)).toNat ≤ ((r.c : Int)).toNat ∧ ∀ j, j < ((r.n : Int)).toNat → ∃ arr T fz, W.heap[((r.b : Int)).toNat]? = some (.cells arr T fz) ∧ arr[((r.o : Int)).toNat + j]? = some (.int .u8 (rowB (rhoX port q n c F) (33 + i) j))
      have hle := ok.le
      refine ⟨by omega, by omega, fun j hj => ?_⟩
      have hj : j < r.zs.length := by have := ok.len; omega
      have h5 := ok.cell j hj
      have e5 : rowB (rhoX port q n c F) (33 + i) j = r.zs.getD j 0 := by
        unfold rowB
        rw [X_row hi hn hem, hr]
        have hg : r.zs.getD j 0 = r.zs[j] := by simp [List.getD_eq_getElem?_getD, hj]
        have := ok.byte r.zs[j] (List.getElem_mem hj)
        rw [hg]
        exact wrap_in (k := .u8) ⟨by show (0 : Int) ≤ _; omega, by show _ ≤ (255 : Int); omega⟩
      rw [e5]
      show ∃ arr T fz, W.heap[r.b]? = some (.cells arr T fz) ∧ arr[r.o + j]? = some (.int .u8 (r.zs.getD j 0))
      unfold World.cell? at h5
      split at h5
      · rename_i arr T fz hb
        exact ⟨arr, T, fz, hb, h5⟩
      · cases h5
  · exfalso
    have : rhoX port q n c F (fMark a) = 0 := by
      unfold rhoX fMark
      rw [if_neg (by omega), if_neg (by omega), if_neg (by omega), if_neg (by omega), if_pos (by omega), if_neg (by omega)]
    rw [this] at h3
    cases h3
theorem X_fsl {W : World} {i : Nat} (hi : i < n) (hn : n ≤ 10) (hem : (F i).2 = none) (ok : (F i).1.Ok W) (φ : List Pl) : conc φ (rhoX port q n c F) (.fsl (33 + i) zeroS zeroS (.var (33 + i))) = some (F i).1.v := by
  have e3 : rhoX port q n c F (fMark (33 + i)) = (F i).1.at 3 := by rw [fM, X_f hi hn (by omega), hem]
  have e2 : rhoX port q n c F (fCap (33 + i)) = (F i).1.at 2 := by rw [fC, X_f hi hn (by omega), hem]
  have e1 : rhoX port q n c F (fOff (33 + i)) = (F i).1.at 1 := by rw [fO, X_f hi hn (by omega), hem]
  have e0 : rhoX port q n c F (fBlk (33 + i)) = (F i).1.at 0 := by rw [fB, X_f hi hn (by omega), hem]
  have el : rhoX port q n c F (33 + i) = (F i).1.n := by rw [X_len hi hn, hem]
  have hle := ok.le
  generalize (F i).1 = r at *
  rw [fsl_mk _ _ _ e3 (by rw [el]; omega) (by rw [el, e2]; show ((r.n : Int)).toNat ≤ ((r.c : Int)).toNat; omega)]
  simp only [SI.ev, zeroS, el, e2, e1, e0]
  show some (Value.slice (some ⟨((r.b : Int)).toNat, ((r.o : Int)).toNat + (if ((r.c : Int)).toNat ≤ ((0 : Int)).toNat then ((0 : Int)).toNat else ((0 : Int)).toNat), none⟩) ((r.n : Int)).toNat (((r.c : Int)).toNat - ((0 : Int)).toNat)) = some (Value.slice (some ⟨r.b, r.o, none⟩) r.n r.c)
  simp
end
/-- what a datagram may be -/
def RowP (W : World) (v : Value) (x : RowF) : Prop := (x.2 = none ∧ v = x.1.v ∧ x.1.Ok W) ∨ ∃ qa, x.2 = some qa ∧ v = .slice qa 0 0
theorem rowP_of {W : World} {v : Value} (h : RowIn W v) : ∃ x, RowP W v x := by
  rcases h with rfl | ⟨a, rfl⟩ | ⟨b, o, n, c, zs, rfl, h1, h2, h3, h4, h5⟩
  · exact ⟨(⟨0, 0, 0, 0, []⟩, some none), .inr ⟨_, rfl, rfl⟩⟩
  · exact ⟨(⟨0, 0, 0, 0, []⟩, some (some a)), .inr ⟨_, rfl, rfl⟩⟩
  · exact ⟨(⟨n, b, o, c, zs⟩, none), .inl ⟨rfl, rfl, ⟨h1, h2, h3, h4, h5⟩⟩⟩
/-- the datagrams: where they stand, how long they are -/
def RowsIn (W : World) (q : Option Addr) (n : Nat) : Prop := ∃ xs : Nat → Value, ∀ i, i < n → (∃ b, q = some b ∧ b.block < W.heap.size ∧ W.cell? (b.add i) = some (xs i)) ∧ RowIn W (xs i) ∧ lnV (xs i) ≤ 1048576
set_option maxRecDepth 100000 in
theorem law_ok (R : AllR) {W : World} {q : Option Addr} {n c : Nat} {port : Int} (h : RowsIn W q n) (hn : n ≤ 10) (hp : 1 ≤ port ∧ port ≤ 65535) : Calls Tryz.prog 3 #[.int .i64 port, .slice q n c] W fun e w' => e = .returned (.bool true) ∧ Kp [] W w' := by
  obtain ⟨xs, hx⟩ := h
  have hex : ∀ i, ∃ x : RowF, i < n → RowP W (xs i) x := by
    intro i
    by_cases hi : i < n
    · obtain ⟨x, h⟩ := rowP_of (hx i hi).2.1
      exact ⟨x, fun _ => h⟩
    · exact ⟨(⟨0, 0, 0, 0, []⟩, none), fun h => absurd h hi⟩
  obtain ⟨F, hF⟩ := Classical.axiomOfChoice hex
  have hok : ∀ i, i < n → (F i).2 = none → (F i).1.Ok W ∧ xs i = (F i).1.v := by
    intro i hi he
    rcases hF i hi with ⟨_, h1, h2⟩ | ⟨qa, h1, _⟩
    · exact ⟨h2, h1⟩
    · rw [he] at h1; cases h1
  have hemp : ∀ i qa, i < n → xs i = .slice qa 0 0 → (F i).2 = some qa → rhoX port q n c F (33 + i) = 0 ∧ rhoX port q n c F (500 + 4 * (33 + i) + 3) = 0 ∧ adrL (rhoX port q n c F) (500 + 4 * (33 + i)) = qa := by
    intro i qa hi h1 he
    refine ⟨by rw [X_len hi hn, he], ?_, adrL_code fun j hj => by rw [X_f hi hn (by omega), he]⟩
    rw [X_f hi hn (by omega), he]
    cases qa <;> rfl
  have a300 : ∀ j, j < 4 → rhoX port q n c F (300 + j) = adsG [(q, c), (some ⟨n, 0, none⟩, 0)] 0 j := fun j hj => by have := X_ads (port := port) (q := q) (n := n) (c := c) (F := F) (j := j) (k := 0) hj (by omega); rw [show 300 + 4 * 0 + j = 300 + j by omega] at this; exact this
  have h303 : (rhoX port q n c F 303).toNat = c := by
    rw [show (303 : Nat) = 300 + 3 from rfl, a300 3 (by omega)]
    cases q <;> rfl
  have G : GivenW W (rhoX port q n c F) q n c xs := by
    refine ⟨adrL_code fun j hj => ?_, ?_, h303, hn, hp, fun i hi => (hx i hi).1, fun i hi => ?_, ?_⟩
    · rw [a300 j (by omega)]
      rcases (by omega : j = 0 ∨ j = 1 ∨ j = 2) with rfl | rfl | rfl <;> cases q <;> rfl
    · have := X_ads (port := port) (q := q) (n := n) (c := c) (F := F) (j := 0) (k := 1) (by omega) (by omega)
      exact this
    · rcases hF i hi with ⟨h1, h2, h3⟩ | ⟨qa, h1, h2⟩
      · refine .inr (.inr ⟨(F i).1.n, ?_, by rw [X_len hi hn, h1], by rw [h2]; rfl, fun φ => by rw [X_fsl hi hn h1 h3, h2]⟩)
        have := (hx i hi).2.2
        rw [h2] at this
        exact this
      · obtain ⟨k1, k2, k3⟩ := hemp i qa hi h2 h1
        cases qa with
        | none => exact .inl ⟨h2, k1, k2, k3⟩
        | some a => exact .inr (.inl ⟨a, h2, k1, k2, k3⟩)
    · unfold rhoX
      rw [if_neg (by omega), if_pos (by omega), if_neg (by omega)]
  exact main_okW R G rfl (fun k h1 h2 => by
    unfold rhoX
    by_cases hk : k < 32
    · rw [if_pos hk, if_neg h2]
    · rw [if_neg hk, if_pos (by omega), if_neg (by omega)]) (X_fo hn fun i hi he => (hok i hi he).1)

/-! how long rows are, by the bulk -/
theorem bulk_lits {H : Type} (k : IntKind) : ∀ l : List Int, Rows.uptoBulkAll (lits (H := H) k l) = l.length
  | [] => by simp [lits, Rows.uptoBulkAll]
  | x :: l => by
    have := bulk_lits (H := H) k l
    simp only [lits, List.map_cons, Rows.uptoBulkAll, Rows.uptoBulk, List.length_cons] at this ⊢
    omega
theorem bulk_mem {H : Type} : ∀ {l : List (DataW H)} {i : Nat} {d : DataW H}, l[i]? = some d → Rows.uptoBulk d ≤ Rows.uptoBulkAll l
  | [], i, d, h => by cases h
  | x :: l, 0, d, h => by
    cases h
    simp only [Rows.uptoBulkAll]
    omega
  | x :: l, i + 1, d, h => by
    have := bulk_mem (l := l) (i := i) h
    simp only [Rows.uptoBulkAll]
    omega
theorem open_rows {H : Type} {enc : TypeId × Value → H} {W : World} {fuel : Nat} {v : Value} {x : DataW H × List MemPlace} {t e u : TypeId} (ht : Tryz.prog.underlying t = some (.slice e)) (he : Tryz.prog.underlying e = some (.slice u)) (hu : Tryz.prog.underlying u = some (.int .u8)) (hce : Tryz.prog.cellsOf e = 1) (hcu : Tryz.prog.cellsOf u = 1)
    (h : DataW.trod enc Tryz.prog W 0 (fun _ => true) true fuel t [v] = some x) (hb : Rows.uptoBulk x.1 ≤ 1048576) : ∃ q n c, v = .slice q n c ∧ (n : Int) ≤ 9223372036854775807 ∧ RowsIn W q n := by
  rcases DataW.trod_slice ht h with ⟨h0, rfl⟩ | ⟨a, len, cap, elems, rest, m, _, h0, rfl, _, hl, hm, hlen, hel, hsp, hns⟩
  · cases h0
    exact ⟨_, _, _, rfl, by omega, fun _ => .slice none 0 0, fun i hi => absurd hi (Nat.not_lt_zero _)⟩
  · cases h0
    refine ⟨some a, len, cap, rfl, by unfold maxLen at hm; omega, ?_⟩
    have each : ∀ i, ∃ y : Value, i < len → (W.cell? (a.add i) = some y ∧ RowIn W y ∧ lnV y ≤ 1048576) := by
      intro i
      by_cases hi : i < len
      · have h1 := hel i hi
        rw [hce, Nat.mul_one, List.getElem?_eq_getElem (by omega)] at h1
        simp only [Option.bind_eq_some_iff] at h1
        obtain ⟨cs, h2, h3⟩ := h1
        have hcs : ∃ y, cs = [y] := by
          have := (World.cells?_some h2).2.1
          match cs, this with
          | [y], _ => exact ⟨y, rfl⟩
        obtain ⟨y, rfl⟩ := hcs
        refine ⟨y, fun _ => ⟨cell_of_cells?_one h2, open_row he hu hcu h3, ?_⟩⟩
        have hbm := bulk_mem (l := elems.map (·.1)) (i := i) (d := elems[i].1) (by rw [List.getElem?_map, List.getElem?_eq_getElem (by omega)]; rfl)
        have hb2 : Rows.uptoBulkAll (elems.map (·.1)) ≤ 1048576 := by
          simp only [Rows.uptoBulk] at hb
          omega
        rcases open_ints he hu hcu h3 with ⟨h4, _⟩ | ⟨a', len', cap', zs, h4, _, hl', _, hz, hx', _, _⟩
        · cases h4
          show 0 ≤ _
          omega
        · cases h4
          rw [hx'] at hbm
          simp only [Rows.uptoBulk] at hbm
          have := bulk_lits (H := H) .u8 (zs.take len')
          simp only [if_true] at hz
          rw [List.length_take] at this
          show len' ≤ _
          omega
      · exact ⟨.slice none 0 0, fun h => absurd h hi⟩
    obtain ⟨xs, hxs⟩ := Classical.axiomOfChoice each
    refine ⟨xs, fun i hi => ⟨⟨a, rfl, ?_, (hxs i hi).1⟩, (hxs i hi).2⟩⟩
    have hc := (hxs i hi).1
    have : (a.add i).block < W.heap.size := by
      rcases Nat.lt_or_ge (a.add i).block W.heap.size with h' | h'
      · exact h'
      · simp [World.cell?, Array.getElem?_eq_none h'] at hc
    rw [adr_block] at this
    exact this
end Go.Proofs.YtmifojdpdbjodaaGreat
