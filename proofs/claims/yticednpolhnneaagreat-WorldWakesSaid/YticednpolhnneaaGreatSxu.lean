/-
  octet.Part, known ahead: the sum of a row's words.
-/
import Derived.Test.YticednpolhnneaaGreatSxt
set_option linter.unusedVariables false
set_option linter.unusedSimpArgs false
namespace Go.Proofs.YticednpolhnneaaGreat
open Go Go.RowKit

theorem and1 (n : Int) : bits BinOp.and .i64 n 1 = n % 2 := by
  have h1 : (BitVec.ofInt 64 1).toNat = 2 ^ 1 - 1 := by decide
  have key : (BitVec.ofInt 64 n &&& BitVec.ofInt 64 1).toNat = (n % ((2 ^ 64 : Nat) : Int)).toNat % 2 ^ 1 := by
    rw [BitVec.toNat_and, BitVec.toNat_ofInt, h1, Nat.and_two_pow_sub_one_eq_mod]
  show IntKind.i64.wrap ((BitVec.ofInt 64 n &&& BitVec.ofInt 64 1).toNat : Nat) = n % 2
  rw [key, IntKind.wrap_i64]
  omega
/-- how far a byte at a place is shifted -/
def shZ (i : Nat) : Int := if i % 2 = 0 then 8 else 0
theorem sh_eq (k : Nat) : bits BinOp.andNot .u64 8 (IntKind.u64.wrap (8 * IntKind.u64.wrap (bits BinOp.and .i64 (k : Int) 1))) = shZ k := by
  rw [and1]
  unfold shZ
  by_cases h : k % 2 = 0
  · rw [if_pos h, show (k : Int) % 2 = 0 by omega]; rfl
  · rw [if_neg h, show (k : Int) % 2 = 1 by omega]; rfl
theorem shZ_nonneg (k : Nat) : 0 ≤ shZ k := by unfold shZ; split <;> omega
/-- the sum of the first bytes -/
def sumZ (c : Nat → Int) : Nat → Int
  | 0 => 0
  | i + 1 => wrap64 (sumZ c i + binZ .shl .i64 (wrap64 (c i)) (shZ i))
theorem run_shl {P : Program} {w : World} {a b : Int} (hb : 0 ≤ b) : (Op.shift .shl .i64 a .u64 b).run P w = .ok (.int .i64 (binZ .shl .i64 a b)) w := by
  have := (binOp_shift (P := P) (w := w) (op := .shl) (T := 0) (k := .i64) (k' := .u64) (a := a) (b := b) (.inl rfl) hb)
  exact this

theorem part_any (b off n cap : Nat) (c : Nat → Int) (hn : n < 4611686018427387904) (w : World) (hc : ∀ i, i < n → w.cell? ⟨b, off + i, none⟩ = some (.int .u8 (c i))) :
    Calls Tryz.prog 145 #[.slice (some ⟨b, off, none⟩) n cap] w fun e w' => e = .returned (.int .i64 (foldZ (sumZ c n))) ∧ Kp [] w w' := by
  go_enter Tryz.func145, Tryz.ntmps145
  go_wp2_with fail
  go_loopw [3, 7] (fun s i wr => wr = w ∧ ∃ k : Nat, k ≤ n ∧ i = .int .i64 k ∧ s = .int .i64 (sumZ c k)) (fun s i _ => n - (intOf i).toNat)
  case atStart => exact ⟨rfl, 0, Nat.zero_le _, rfl, rfl⟩
  case round =>
    obtain ⟨rfl, k, hk, rfl, rfl⟩ := hrel
    by_cases hkn : k < n
    · have hck := hc k hkn
      go_wp2
      rw [sh_eq, run_shl (shZ_nonneg k)]
      go_wp2
      refine ⟨⟨trivial, k + 1, hkn, by simp, rfl⟩, ?_⟩
      simp only [intOf]
      omega
    · have hkn : k = n := by omega
      subst hkn
      go_wp2_with fail
      refine (fold_any _ _).mono ?_
      rintro e w' ⟨rfl, hk2⟩
      go_wp2_with fail
      exact bodyPost_ret (results_tmp rfl _ _ _) rfl ⟨rfl, hk2⟩

/-! the same, reckoned -/
theorem foldZ_low {n : Int} (h0 : 65535 < n) (h1 : n < 4611686018427387904) : foldZ n = foldZ (n % 65536 + n / 65536) := by
  rw [foldZ_step h0]
  congr 1
  omega
theorem foldF_succ (k : Nat) (n : Int) : foldF (k + 1) n = if 65535 < n then foldF k (n % 65536 + n / 65536) else n := by
  show Bool.rec (motive := fun _ => Int) n (foldF k (Int.add (Int.emod n 65536) (Int.ediv n 65536))) (bltF 65535 n) = _
  rw [bltF_eq]
  by_cases h : 65535 < n
  · rw [if_pos h]; simp only [h, decide_true]; rfl
  · rw [if_neg h]; simp only [h, decide_false]
theorem foldF_eq {n : Int} (h0 : 0 ≤ n) (h1 : n < 4294967296) : foldF 4 n = foldZ n := by
  rw [foldF_succ]
  by_cases a1 : 65535 < n
  · rw [if_pos a1, foldZ_low a1 (by omega), foldF_succ]
    generalize hm : n % 65536 + n / 65536 = m
    have b0 : 0 ≤ m := by omega
    have b1 : m ≤ 131070 := by omega
    by_cases a2 : 65535 < m
    · rw [if_pos a2, foldZ_low a2 (by omega), foldF_succ]
      generalize hq : m % 65536 + m / 65536 = q
      have c1 : q ≤ 65536 := by omega
      by_cases a3 : 65535 < q
      · rw [if_pos a3, foldZ_low a3 (by omega), foldF_succ]
        have : q = 65536 := by omega
        subst this
        rw [if_neg (by omega), foldZ_end (by omega)]
      · rw [if_neg a3, foldZ_end a3]
    · rw [if_neg a2, foldZ_end a2]
  · rw [if_neg a1, foldZ_end a1]
noncomputable section
def foldLit (n : Int) (κ : SI → R) (alt : R) : R := Bool.rec (motive := fun _ => R) alt (forceI (foldF (nat_lit 4) n) fun m => κ (.lit m)) (notF (bltF n (.ofNat (nat_lit 0))) && bltF n (.ofNat (nat_lit 4294967296)))
def most62 : Int := .ofNat (nat_lit 4611686018427387903)
/-- less by a multiple of 65535 -/
def redK (rg : List (Int × Int)) (e : SI) : (SI → R) → R := SI.rec (motive := fun _ => (SI → R) → R) (fun n κ => κ (.lit n)) (fun i κ => κ (.var i))
  (fun op k a b iha _ κ => match op, k with
    | .add, .i64 => match b with
      | .lit (.ofNat c) => Bool.rec (motive := fun _ => R) (κ (.bin .add .i64 a (.lit (.ofNat c)))) (Bool.rec (motive := fun _ => R) (iha fun a => κ (.bin .add .i64 a (.lit (.ofNat c)))) (forceN (Nat.mod c (nat_lit 65535)) fun d => κ (.bin .add .i64 a (.lit (.ofNat d)))) (Nat.ble (nat_lit 65535) c)) (rngIn rg a (.ofNat (nat_lit 1)) most62 && Nat.blt c (nat_lit 4611686018427387904))
      | b => Bool.rec (motive := fun _ => R) (κ (.bin .add .i64 a b)) (iha fun a => κ (.bin .add .i64 a b)) (rngIn rg a (.ofNat (nat_lit 1)) most62 && rngIn rg b (.ofNat (nat_lit 0)) most62)
    | op, k => κ (.bin op k a b))
  (fun k a _ κ => κ (.conv k a)) (fun a _ κ => κ (.fold a)) (fun a p o n _ _ κ => κ (.rs a p o n)) e
def foldS (rg : List (Int × Int)) (e : SI) (κ : SI → R) : R := Bool.rec (motive := fun _ => R) (Bool.rec (motive := fun _ => R) (κ (.fold e)) (redK rg e fun e => κ (.fold e)) (rngIn rg e (.ofNat (nat_lit 1)) most62)) (κ (.lit (.ofNat (nat_lit 65535)))) (onesK rg e)
def foldK (rg : List (Int × Int)) (e : SI) : (SI → R) → R → R := SI.rec (motive := fun _ => (SI → R) → R → R) (fun n κ alt => foldLit n κ alt) (fun i κ _ => foldS rg (.var i) κ) (fun o k a b _ _ κ _ => foldS rg (.bin o k a b) κ) (fun k a _ κ _ => foldS rg (.conv k a) κ) (fun a _ κ _ => foldS rg (.fold a) κ) (fun a p o n _ _ κ _ => foldS rg (.rs a p o n) κ) e
/-- octet.fold -/
def foldA (l : List AV) (s : St) (κ : AV → St → R) (alt : R) : R := match l with
  | [.int .i64 e] => foldK s.pc.rg e (fun e => κ (.int .i64 e) s) alt
  | _ => alt
def sumFold : Sums := fun f l s κ alt => Bool.rec (motive := fun _ => R) alt (foldA l s κ alt) (Nat.beq f 195)
def partL (l : List AV) : Bool → SI → (SI → R) → R := List.rec (motive := fun _ => Bool → SI → (SI → R) → R) (fun _ a κ => κ a)
  (fun v _ ih b a κ => intV v (nat_lit 301) fun k e => Bool.rec (motive := fun _ => R) (.fail 302) (convK .i64 e fun e => binK .shl .i64 e (.lit (.ofNat (Bool.rec (motive := fun _ => Nat) (nat_lit 0) (nat_lit 8) b))) fun x => binK .add .i64 a x fun a => ih (notF b) a κ) (kindEq k .u8)) l
def partO (rg : List (Int × Int)) (off len : Nat) (κ : SI → R) (alt : R) (n : Nat) (c : Tr AV) (d : Option AV) (T : TypeId) (r : Bool) : R :=
  Bool.rec (motive := fun _ => R) (.fail 303) (ldN c d off len fun l => partL l true (.lit (.ofNat (nat_lit 0))) fun e => foldK rg e κ alt) (Nat.ble (Nat.add off len) n && Nat.blt len (nat_lit 4611686018427387904))
def partS' (l : List AV) (s : St) (κ : AV → St → R) (alt : R) : R := match l with
  | [.sl id off len _] => objK s.hp id (partO s.pc.rg off len (fun e => κ (.int .i64 e) s) alt)
  | _ => alt
def sumPart : Sums := fun f l s κ alt => Bool.rec (motive := fun _ => R) alt (partS' l s κ alt) (Nat.beq f 145)
end

theorem foldZ_congr {n m : Int} (hn : 0 < n) (hn' : n < 9223372036854775808) (hm : 0 < m) (hm' : m < 9223372036854775808) (h : (65535 : Int) ∣ n - m) : foldZ n = foldZ m := by
  have a1 := foldZ_mod (n.toNat + 1) n (by omega) hn' (by omega)
  have a2 := foldZ_mod (m.toNat + 1) m (by omega) hm' (by omega)
  have b1 := foldZ_pos (n.toNat + 1) n hn hn' (by omega)
  have b2 := foldZ_pos (m.toNat + 1) m hm hm' (by omega)
  have c1 := foldZ_in (n.toNat + 1) n (by omega) hn' (by omega)
  have c2 := foldZ_in (m.toNat + 1) m (by omega) hm' (by omega)
  omega
theorem redK_inv {rg : List (Int × Int)} {D : Dn} : ∀ (e : SI) {κ : SI → R}, redK rg e κ ∈ D → ∃ u, κ u ∈ D ∧ ∀ ρ, RgOk ρ rg → 1 ≤ e.ev ρ → 0 < u.ev ρ ∧ u.ev ρ ≤ e.ev ρ ∧ (65535 : Int) ∣ e.ev ρ - u.ev ρ := by
  intro e
  have self : ∀ {e : SI} {κ : SI → R}, κ e ∈ D → ∃ u, κ u ∈ D ∧ ∀ ρ, RgOk ρ rg → 1 ≤ e.ev ρ → 0 < u.ev ρ ∧ u.ev ρ ≤ e.ev ρ ∧ (65535 : Int) ∣ e.ev ρ - u.ev ρ := fun {e κ} h => ⟨e, h, fun ρ hr h1 => ⟨by omega, Int.le_refl _, by simp⟩⟩
  induction e with
  | lit n => intro κ h; exact self h
  | var i => intro κ h; exact self h
  | conv k a _ => intro κ h; exact self h
  | fold a _ => intro κ h; exact self h
  | rs _ _ _ _ _ _ => intro κ h; exact self h
  | bin op k a b iha ihb =>
    intro κ h
    -- two that are added
    have add2 : ∀ {b' : SI}, (rngIn rg a (.ofNat (nat_lit 1)) most62 = true) → (∀ ρ, RgOk ρ rg → 0 ≤ b'.ev ρ ∧ b'.ev ρ ≤ 4611686018427387903) → redK rg a (fun a => κ (.bin .add .i64 a b')) ∈ D → ∃ u, κ u ∈ D ∧ ∀ ρ, RgOk ρ rg → 1 ≤ (SI.bin .add .i64 a b').ev ρ → 0 < u.ev ρ ∧ u.ev ρ ≤ (SI.bin .add .i64 a b').ev ρ ∧ (65535 : Int) ∣ (SI.bin .add .i64 a b').ev ρ - u.ev ρ := by
      intro b' ha hb h
      obtain ⟨u, h1, h2⟩ := iha h
      refine ⟨_, h1, fun ρ hr h3 => ?_⟩
      have ha := rngIn_ok hr ha
      have a1 : (1 : Int) ≤ a.ev ρ := ha.1
      have a2 : a.ev ρ ≤ 4611686018427387903 := ha.2
      obtain ⟨b1, b2⟩ := hb ρ hr
      obtain ⟨c1, c2, c3⟩ := h2 ρ hr a1
      have e1 : (SI.bin .add .i64 a b').ev ρ = a.ev ρ + b'.ev ρ := by
        show IntKind.i64.wrap (a.ev ρ + b'.ev ρ) = _
        rw [wrap_i64']; omega
      have e2 : (SI.bin .add .i64 u b').ev ρ = u.ev ρ + b'.ev ρ := by
        show IntKind.i64.wrap (u.ev ρ + b'.ev ρ) = _
        rw [wrap_i64']; omega
      rw [e1, e2]
      exact ⟨by omega, by omega, by omega⟩
    have other : ∀ {b' : SI}, (Bool.rec (motive := fun _ => R) (κ (.bin .add .i64 a b')) (redK rg a fun a => κ (.bin .add .i64 a b')) (rngIn rg a (.ofNat (nat_lit 1)) most62 && rngIn rg b' (.ofNat (nat_lit 0)) most62)) ∈ D → ∃ u, κ u ∈ D ∧ ∀ ρ, RgOk ρ rg → 1 ≤ (SI.bin .add .i64 a b').ev ρ → 0 < u.ev ρ ∧ u.ev ρ ≤ (SI.bin .add .i64 a b').ev ρ ∧ (65535 : Int) ∣ (SI.bin .add .i64 a b').ev ρ - u.ev ρ := by
      intro b' h
      rcases brec_cases h with ⟨h1, h2⟩ | ⟨_, h2⟩
      · rw [Bool.and_eq_true] at h1
        exact add2 h1.1 (fun ρ hr => rngIn_ok hr h1.2) h2
      · exact self h2
    cases op <;> first | exact self h | skip
    cases k <;> first | exact self h | skip
    cases b with
    | lit m =>
      cases m with
      | ofNat c =>
        have h : Bool.rec (motive := fun _ => R) (κ (.bin .add .i64 a (.lit (.ofNat c)))) (Bool.rec (motive := fun _ => R) (redK rg a fun a => κ (.bin .add .i64 a (.lit (.ofNat c)))) (forceN (Nat.mod c (nat_lit 65535)) fun d => κ (.bin .add .i64 a (.lit (.ofNat d)))) (Nat.ble (nat_lit 65535) c)) (rngIn rg a (.ofNat (nat_lit 1)) most62 && Nat.blt c (nat_lit 4611686018427387904)) ∈ D := h
        rcases brec_cases h with ⟨h1, h2⟩ | ⟨_, h2⟩
        · simp only [Bool.and_eq_true, natBlt, decide_eq_true_eq] at h1
          obtain ⟨ha, hc⟩ := h1
          rcases brec_cases h2 with ⟨h3, h4⟩ | ⟨_, h4⟩
          · rw [natBle] at h3
            have h3 : 65535 ≤ c := of_decide_eq_true h3
            rw [forceN_eq] at h4
            refine ⟨_, h4, fun ρ hr _ => ?_⟩
            have ha := rngIn_ok hr ha
            have a1 : (1 : Int) ≤ a.ev ρ := ha.1
            have a2 : a.ev ρ ≤ 4611686018427387903 := ha.2
            have hm : Nat.mod c 65535 = c % 65535 := rfl
            have hd : c % 65535 ≤ c := Nat.mod_le _ _
            have e1 : (SI.bin .add .i64 a (.lit (.ofNat c))).ev ρ = a.ev ρ + (c : Int) := by
              show IntKind.i64.wrap (a.ev ρ + (c : Int)) = _
              rw [wrap_i64']; omega
            have e2 : (SI.bin .add .i64 a (.lit (.ofNat (Nat.mod c 65535)))).ev ρ = a.ev ρ + ((c % 65535 : Nat) : Int) := by
              show IntKind.i64.wrap (a.ev ρ + ((c % 65535 : Nat) : Int)) = _
              rw [wrap_i64']; omega
            rw [e1, e2]
            exact ⟨by omega, by omega, by omega⟩
          · exact add2 ha (fun ρ hr => ⟨Int.natCast_nonneg c, by show (c : Int) ≤ _; omega⟩) h4
        · exact self h2
      | negSucc m => exact other h
    | var _ => exact other h
    | bin _ _ _ _ => exact other h
    | conv _ _ => exact other h
    | fold _ => exact other h
    | rs _ _ _ _ => exact other h
theorem foldS_inv {rg : List (Int × Int)} {e : SI} {κ : SI → R} {D : Dn} (h : foldS rg e κ ∈ D) : ∃ u, κ u ∈ D ∧ ∀ ρ, RgOk ρ rg → u.ev ρ = foldZ (e.ev ρ) := by
  unfold foldS at h
  rcases brec_cases h with ⟨h1, h2⟩ | ⟨_, h2⟩
  · exact ⟨_, h2, fun ρ hr => (onesK_ok h1 hr).symm⟩
  · rcases brec_cases h2 with ⟨h3, h4⟩ | ⟨_, h4⟩
    · obtain ⟨u, h5, h6⟩ := redK_inv e h4
      refine ⟨_, h5, fun ρ hr => ?_⟩
      have he := rngIn_ok hr h3
      have e1 : (1 : Int) ≤ e.ev ρ := he.1
      have e2 : e.ev ρ ≤ 4611686018427387903 := he.2
      obtain ⟨c1, c2, c3⟩ := h6 ρ hr e1
      show foldZ (u.ev ρ) = foldZ (e.ev ρ)
      exact foldZ_congr c1 (by omega) (by omega) (by omega) (by omega)
    · exact ⟨_, h4, fun _ _ => rfl⟩
theorem foldK_inv {rg : List (Int × Int)} {e : SI} {κ : SI → R} {alt : R} {D : Dn} (h : foldK rg e κ alt ∈ D) : alt ∈ D ∨ ∃ u, κ u ∈ D ∧ ∀ ρ, RgOk ρ rg → u.ev ρ = foldZ (e.ev ρ) := by
  cases e with
  | lit n =>
    have h : foldLit n κ alt ∈ D := h
    unfold foldLit at h
    rcases brec_cases h with ⟨hb, h1⟩ | ⟨_, h1⟩
    · simp only [Bool.and_eq_true, notF_eq, bltF_eq, Bool.not_eq_true', decide_eq_false_iff_not, decide_eq_true_eq, Int.ofNat_eq_natCast] at hb
      rw [forceI_eq] at h1
      exact .inr ⟨_, h1, fun ρ _ => foldF_eq (by omega) (by omega)⟩
    · exact .inl h1
  | var i => exact .inr (foldS_inv h)
  | bin o k a b => exact .inr (foldS_inv h)
  | conv k a => exact .inr (foldS_inv h)
  | fold a => exact .inr (foldS_inv h)
  | rs a p o n => exact .inr (foldS_inv h)
theorem sumFold_ok : SumsOk Tryz.prog sumFold := by
  intro ρ f l s κ alt D h
  unfold sumFold at h
  rcases brec_cases h with ⟨hf, h1⟩ | ⟨_, h1⟩
  · rw [natBeq] at hf
    have hf := of_decide_eq_true hf
    subst hf
    unfold foldA at h1
    split at h1
    · rename_i e
      rcases foldK_inv h1 with h2 | ⟨u, h2, h3⟩
      · exact .inl h2
      · refine .inr ⟨_, s, h2, .refl _, fun {w0 φ w xs} hρ hx hm => CallsOr.of (enter_of Tryz.func195 (by kernel_rfl) (by kernel_rfl) _ w) ?_⟩
        obtain ⟨y, ys, e1, e2, rfl⟩ := concL_cons.1 hx
        simp only [concL, Option.some.injEq] at e2
        subst e2
        simp only [conc, Option.some.injEq] at e1
        subst e1
        refine (fold_any (e.ev ρ) w).mono fun e' w' ⟨he, hk⟩ => ⟨φ, _, he, List.prefix_refl _, ?_, hm.keeps hk⟩
        simp only [conc]
        rw [h3 ρ hρ.rg]
    · exact .inl h1
  · exact .inl h1
/-- the sum of a list's cells -/
def sumL (ρ : Nat → Int) : List AV → Nat → Int → Int
  | [], _, a => a
  | v :: l, i, a => sumL ρ l (i + 1) (wrap64 (a + binZ .shl .i64 (wrap64 (match v with | .int _ e => e.ev ρ | _ => 0)) (shZ i)))
theorem partL_inv {D : Dn} : ∀ {l : List AV} {i : Nat} {a : SI} {κ : SI → R}, partL l (decide (i % 2 = 0)) a κ ∈ D → ∃ u, κ u ∈ D ∧ (∀ v ∈ l, ∃ e, v = .int .u8 e) ∧ ∀ ρ, u.ev ρ = sumL ρ l i (a.ev ρ)
  | [], i, a, κ, h => ⟨a, h, (fun v hv => by cases hv), fun _ => rfl⟩
  | v :: l, i, a, κ, h => by
    have h : intV v (nat_lit 301) (fun k e => Bool.rec (motive := fun _ => R) (.fail 302) (convK .i64 e fun e => binK .shl .i64 e (.lit (.ofNat (Bool.rec (motive := fun _ => Nat) (nat_lit 0) (nat_lit 8) (decide (i % 2 = 0))))) fun x => binK .add .i64 a x fun a => partL l (notF (decide (i % 2 = 0))) a κ) (kindEq k .u8)) ∈ D := h
    obtain ⟨k, e, rfl, h1⟩ := intV_inv h
    obtain ⟨hk, h2⟩ := brec_inv h1
    have hk := kindEq_of hk
    subst hk
    obtain ⟨e1, q1, q2⟩ := convK_spec .i64 e (fun e => binK .shl .i64 e (.lit (.ofNat (Bool.rec (motive := fun _ => Nat) (nat_lit 0) (nat_lit 8) (decide (i % 2 = 0))))) fun x => binK .add .i64 a x fun a => partL l (notF (decide (i % 2 = 0))) a κ)
    rw [q1] at h2
    obtain ⟨e2, q3, q4⟩ := binK_spec .shl .i64 e1 (.lit (.ofNat (Bool.rec (motive := fun _ => Nat) (nat_lit 0) (nat_lit 8) (decide (i % 2 = 0))))) (fun x => binK .add .i64 a x fun a => partL l (notF (decide (i % 2 = 0))) a κ)
    rw [q3] at h2
    obtain ⟨e3, q5, q6⟩ := binK_spec .add .i64 a e2 (fun a => partL l (notF (decide (i % 2 = 0))) a κ)
    rw [q5] at h2
    have hb : notF (decide (i % 2 = 0)) = decide ((i + 1) % 2 = 0) := by
      rw [notF_eq]
      by_cases hi : i % 2 = 0
      · rw [decide_eq_true hi, decide_eq_false (by omega : ¬ (i + 1) % 2 = 0)]; rfl
      · rw [decide_eq_false hi, decide_eq_true (by omega : (i + 1) % 2 = 0)]; rfl
    rw [hb] at h2
    obtain ⟨u, h3, h4, h5⟩ := partL_inv h2
    refine ⟨u, h3, fun v hv => ?_, fun ρ => ?_⟩
    · simp only [List.mem_cons] at hv
      rcases hv with rfl | hv
      · exact ⟨_, rfl⟩
      · exact h4 v hv
    · rw [h5]
      show _ = sumL ρ l (i + 1) _
      congr 1
      rw [q6, q4, q2]
      simp only [SI.ev, binZ]
      have hs : (Int.ofNat (Bool.rec (motive := fun _ => Nat) 0 8 (decide (i % 2 = 0)))) = shZ i := by
        unfold shZ
        by_cases hi : i % 2 = 0
        · rw [decide_eq_true hi, if_pos hi]; rfl
        · rw [decide_eq_false hi, if_neg hi]; rfl
      rw [show (Int.ofNat (Bool.rec (motive := fun _ => Nat) (nat_lit 0) (nat_lit 8) (decide (i % 2 = 0)))) = shZ i from hs]
      simp only [wrap_i64', wrap64_eq]
/-- a list's value at a place -/
def valL (ρ : Nat → Int) (l : List AV) (i : Nat) : Int := match l[i]? with
  | some (.int _ e) => e.ev ρ
  | _ => 0
theorem sumL_eq (ρ : Nat → Int) (l : List AV) : ∀ (k i : Nat), i + k = l.length → sumL ρ (l.drop i) i (sumZ (valL ρ l) i) = sumZ (valL ρ l) l.length
  | 0, i, h => by
    have : i = l.length := by omega
    subst this
    rw [List.drop_length]
    rfl
  | k + 1, i, h => by
    have hi : i < l.length := by omega
    rw [List.drop_eq_getElem_cons hi]
    show sumL ρ (l.drop (i + 1)) (i + 1) _ = _
    rw [← sumL_eq ρ l k (i + 1) (by omega)]
    congr 1
    show wrap64 _ = wrap64 _
    congr 3
    unfold valL
    rw [List.getElem?_eq_getElem hi]
    cases l[i] <;> rfl
theorem sumPart_ok : SumsOk Tryz.prog sumPart := by
  intro ρ f l s κ alt D h
  unfold sumPart at h
  rcases brec_cases h with ⟨hf, h1⟩ | ⟨_, h1⟩
  · rw [natBeq] at hf
    have hf := of_decide_eq_true hf
    subst hf
    unfold partS' at h1
    split at h1
    · rename_i id off len cap
      obtain ⟨n, c, d, T, r, hid, h2⟩ := objK_inv h1
      unfold partO at h2
      obtain ⟨hb, h3⟩ := brec_inv h2
      simp only [Bool.and_eq_true, natBle, natBlt, decide_eq_true_eq] at hb
      have hb1 : off + len ≤ n := hb.1
      obtain ⟨cl, hl, h4, hcl⟩ := ldN_inv h3
      obtain ⟨u, h5, h6, h7⟩ := partL_inv (i := 0) h4
      rcases foldK_inv h5 with h8 | ⟨x, h8, h9⟩
      · exact .inl h8
      · refine .inr ⟨_, s, h8, .refl _, fun {w0 φ w xs} hρ hx hm => CallsOr.of (enter_of Tryz.func145 (by kernel_rfl) (by kernel_rfl) _ w) ?_⟩
        obtain ⟨y, ys, e1, e2, rfl⟩ := concL_cons.1 hx
        simp only [concL, Option.some.injEq] at e2
        subst e2
        obtain ⟨p, hp, rfl⟩ := conc_sl e1
        obtain ⟨p', arr, fz, hp', hc⟩ := hm.hp.obj _ _ hid
        rw [hp] at hp'; cases hp'
        obtain ⟨vs, q1, q2⟩ := cells_row hc cl off (by rw [hl]; exact hb1) (by rw [hl]; exact hcl)
        refine (part_any p.blk (p.sh + off) len _ (valL ρ cl) hb.2 w fun i hi => ?_).mono fun e w' ⟨he, hk⟩ => ⟨φ, _, he, List.prefix_refl _, ?_, hm.keeps hk⟩
        · have hi' : i < cl.length := by rw [hl]; exact hi
          obtain ⟨e, he⟩ := h6 cl[i] (List.getElem_mem hi')
          obtain ⟨v, r1, r2⟩ := concL_get q1 (List.getElem?_eq_getElem hi')
          have r3 := q2 i v r2
          rw [add_plain] at r3
          rw [r3]
          unfold valL
          rw [List.getElem?_eq_getElem hi', he]
          rw [he] at r1
          simp only [conc, Option.some.injEq] at r1
          rw [← r1]
        · simp only [conc]
          rw [h9 ρ hρ.rg, h7]
          have := sumL_eq ρ cl cl.length 0 (by omega)
          rw [List.drop_zero, show sumZ (valL ρ cl) 0 = 0 from rfl, hl] at this
          rw [show SI.ev ρ (.lit (.ofNat (nat_lit 0))) = 0 from rfl, this]
    · exact .inl h1
  · exact .inl h1
noncomputable def sumsB : Sums := sumOr sumFold sumPart
theorem sumsB_ok : SumsOk Tryz.prog sumsB := sumOr_ok sumFold_ok sumPart_ok
end Go.Proofs.YticednpolhnneaaGreat
