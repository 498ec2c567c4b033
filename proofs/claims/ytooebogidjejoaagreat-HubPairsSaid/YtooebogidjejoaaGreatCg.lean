/-
  octet.fold, known ahead.
  octet.Part, known ahead: the sum of a row's words.
  octet.Part of a rope, known ahead.
  A run reckoned ahead: counters that many may add to (sync/atomic), by one who is alone.
  A law's own comparison of two rows of bytes (same), known ahead where both are told alike.
  A run whose argument is a row of bytes.
  A run whose arguments are a row of bytes and a number.
  A run whose arguments are numbers and rows of bytes, as many as there are: the letters' values.
  The padding of a frame that holds a row's last segment is a letter: what is known of it.
-/
import Derived.Test.YtooebogidjejoaaGreatCe
import Derived.Test.YtooebogidjejoaaGreatProg
import Derived.Laws.LoneSync
import Derived.Lib.Overlaps
import Derived.ProofKit
import Derived.OpenShut
import Derived.ChangeSlices
import Derived.Test.YtooebogidjejoaaGreatCf
set_option linter.unusedVariables false
set_option linter.unusedSimpArgs false
namespace Go.Proofs.YtooebogidjejoaaGreat
open Go Go.RowKit
theorem and16 (n : Int) : bits BinOp.and .i64 n 65535 = n % 65536 := by
 have h255 : (BitVec.ofInt 64 65535).toNat = 2 ^ 16 - 1 := by decide
 have key : (BitVec.ofInt 64 n &&& BitVec.ofInt 64 65535).toNat = (n % ((2 ^ 64 : Nat) : Int)).toNat % 2 ^ 16 := by
  rw [BitVec.toNat_and, BitVec.toNat_ofInt, h255, Nat.and_two_pow_sub_one_eq_mod]
 show IntKind.i64.wrap ((BitVec.ofInt 64 n &&& BitVec.ofInt 64 65535).toNat : Nat) = n % 65536
 rw [key, IntKind.wrap_i64]
 omega
theorem wrap64_eq (n : Int) : wrap64 n = (n + 9223372036854775808) % 18446744073709551616 - 9223372036854775808 := by unfold wrap64; rfl
theorem foldZ_step {n : Int} (h : 65535 < n) : foldZ n = foldZ ((n % 65536 + n / 65536 + 9223372036854775808) % 18446744073709551616 - 9223372036854775808) := by
 conv => lhs; rw [foldZ]
 rw [if_pos h]
theorem foldZ_end {n : Int} (h : ¬ 65535 < n) : foldZ n = n := by
 rw [foldZ, if_neg h]
theorem foldZ_less {n : Int} (h : 65535 < n) : (if ((n % 65536 + n / 65536 + 9223372036854775808) % 18446744073709551616 - 9223372036854775808) < 9223372036854775808 then ((n % 65536 + n / 65536 + 9223372036854775808) % 18446744073709551616 - 9223372036854775808).toNat else 18446744073709551616) < if n < 9223372036854775808 then n.toNat else 18446744073709551616 := by
 by_cases hn : n < 9223372036854775808
 ·have h1 : 0 ≤ n % 65536 + n / 65536 := by omega
  have h2 : n % 65536 + n / 65536 < n := by omega
  rw [Int.emod_eq_of_lt (by omega) (by omega)]
  rw [if_pos (by omega), if_pos hn]
  omega
 ·rw [if_neg hn]
  split <;> omega
theorem fold_any (n : Int) (w : World) : Calls Tryz.prog 105 #[.int .i64 n] w fun e w' => e = .returned (.int .i64 (foldZ n)) ∧ Kp [] w w' := by
 go_enter Tryz.func105, Tryz.ntmps105
 go_wp2_with fail
 go_loopw [0] (fun i wr => wr = w ∧ ∃ m : Int, i = .int .i64 m ∧ foldZ m = foldZ n) (fun i _ => if intOf i < 9223372036854775808 then (intOf i).toNat else 18446744073709551616)
 case atStart => exact ⟨rfl, n, rfl, rfl⟩
 case round =>
  obtain ⟨rfl, m, rfl, hm⟩ := hrel
  go_wp2
  ·rename_i hgt
   go_roundw
   case rel => exact ⟨by first | rfl | trivial, _, rfl, by rw [← hm, foldZ_step (n := m) hgt, and16, wrap64_eq]⟩
   case measure =>
    rw [and16, wrap64_eq]
    simp only [intOf]
    exact foldZ_less hgt
  ·exact bodyPost_ret (results_tmp rfl _ _ _) rfl ⟨by rw [← hm, foldZ_end (by omega)]; rfl, .refl _ _⟩
end Go.Proofs.YtooebogidjejoaaGreat
namespace Go.Proofs.YtooebogidjejoaaGreat
open Go Go.RowKit
theorem and1 (n : Int) : bits BinOp.and .i64 n 1 = n % 2 := by
 have h1 : (BitVec.ofInt 64 1).toNat = 2 ^ 1 - 1 := by decide
 have key : (BitVec.ofInt 64 n &&& BitVec.ofInt 64 1).toNat = (n % ((2 ^ 64 : Nat) : Int)).toNat % 2 ^ 1 := by
  rw [BitVec.toNat_and, BitVec.toNat_ofInt, h1, Nat.and_two_pow_sub_one_eq_mod]
 show IntKind.i64.wrap ((BitVec.ofInt 64 n &&& BitVec.ofInt 64 1).toNat : Nat) = n % 2
 rw [key, IntKind.wrap_i64]
 omega
def shZ (i : Nat) : Int := if i % 2 = 0 then 8 else 0
theorem sh_eq (k : Nat) : bits BinOp.andNot .u64 8 (IntKind.u64.wrap (8 * IntKind.u64.wrap (bits BinOp.and .i64 (k : Int) 1))) = shZ k := by
 rw [and1]
 unfold shZ
 by_cases h : k % 2 = 0
 ·rw [if_pos h, show (k : Int) % 2 = 0 by omega]; rfl
 ·rw [if_neg h, show (k : Int) % 2 = 1 by omega]; rfl
theorem shZ_nonneg (k : Nat) : 0 ≤ shZ k := by unfold shZ; split <;> omega
def sumZ (c : Nat → Int) : Nat → Int
 | 0 => 0
 | i + 1 => wrap64 (sumZ c i + binZ .shl .i64 (wrap64 (c i)) (shZ i))
theorem run_shl {P : Program} {w : World} {a b : Int} (hb : 0 ≤ b) : (Op.shift .shl .i64 a .u64 b).run P w = .ok (.int .i64 (binZ .shl .i64 a b)) w := by
 have := (binOp_shift (P := P) (w := w) (op := .shl) (T := 0) (k := .i64) (k' := .u64) (a := a) (b := b) (.inl rfl) hb)
 exact this
theorem part_any (b off n cap : Nat) (c : Nat → Int) (hn : n < 4611686018427387904) (w : World) (hc : ∀ i, i < n → w.cell? ⟨b, off + i, none⟩ = some (.int .u8 (c i))) :
  Calls Tryz.prog 88 #[.slice (some ⟨b, off, none⟩) n cap] w fun e w' => e = .returned (.int .i64 (foldZ (sumZ c n))) ∧ Kp [] w w' := by
 go_enter Tryz.func88, Tryz.ntmps88
 go_wp2_with fail
 go_loopw [3, 7] (fun s i wr => wr = w ∧ ∃ k : Nat, k ≤ n ∧ i = .int .i64 k ∧ s = .int .i64 (sumZ c k)) (fun s i _ => n - (intOf i).toNat)
 case atStart => exact ⟨rfl, 0, Nat.zero_le _, rfl, rfl⟩
 case round =>
  obtain ⟨rfl, k, hk, rfl, rfl⟩ := hrel
  by_cases hkn : k < n
  ·have hck := hc k hkn
   go_wp2
   rw [sh_eq, run_shl (shZ_nonneg k)]
   go_wp2
   refine ⟨⟨trivial, k + 1, hkn, by simp, rfl⟩, ?_⟩
   simp only [intOf]
   omega
  ·have hkn : k = n := by omega
   subst hkn
   go_wp2_with fail
   refine (fold_any _ _).mono ?_
   rintro e w' ⟨rfl, hk2⟩
   go_wp2_with fail
   exact bodyPost_ret (results_tmp rfl _ _ _) rfl ⟨rfl, hk2⟩
theorem foldZ_low {n : Int} (h0 : 65535 < n) (h1 : n < 4611686018427387904) : foldZ n = foldZ (n % 65536 + n / 65536) := by
 rw [foldZ_step h0]
 congr 1
 omega
theorem foldF_succ (k : Nat) (n : Int) : foldF (k + 1) n = if 65535 < n then foldF k (n % 65536 + n / 65536) else n := by
 show Bool.rec (motive := fun _ => Int) n (foldF k (Int.add (Int.emod n 65536) (Int.ediv n 65536))) (bltF 65535 n) = _
 rw [bltF_eq]
 by_cases h : 65535 < n
 ·rw [if_pos h]; simp only [h, decide_true]; rfl
 ·rw [if_neg h]; simp only [h, decide_false]
theorem foldF_eq {n : Int} (h0 : 0 ≤ n) (h1 : n < 4294967296) : foldF 4 n = foldZ n := by
 rw [foldF_succ]
 by_cases a1 : 65535 < n
 ·rw [if_pos a1, foldZ_low a1 (by omega), foldF_succ]
  generalize hm : n % 65536 + n / 65536 = m
  have b0 : 0 ≤ m := by omega
  have b1 : m ≤ 131070 := by omega
  by_cases a2 : 65535 < m
  ·rw [if_pos a2, foldZ_low a2 (by omega), foldF_succ]
   generalize hq : m % 65536 + m / 65536 = q
   have c1 : q ≤ 65536 := by omega
   by_cases a3 : 65535 < q
   ·rw [if_pos a3, foldZ_low a3 (by omega), foldF_succ]
    have : q = 65536 := by omega
    subst this
    rw [if_neg (by omega), foldZ_end (by omega)]
   ·rw [if_neg a3, foldZ_end a3]
  ·rw [if_neg a2, foldZ_end a2]
 ·rw [if_neg a1, foldZ_end a1]
noncomputable section
def foldLit (n : Int) (κ : SI → R) (alt : R) : R := Bool.rec (motive := fun _ => R) alt (forceI (foldF (nat_lit 4) n) fun m => κ (.lit m)) (notF (bltF n (.ofNat (nat_lit 0))) && bltF n (.ofNat (nat_lit 4294967296)))
def most62 : Int := .ofNat (nat_lit 4611686018427387903)
def redK (rg : List (Int × Int)) (e : SI) : (SI → R) → R := SI.rec (motive := fun _ => (SI → R) → R) (fun n κ => κ (.lit n)) (fun i κ => κ (.var i))
 (fun op k a b iha _ κ => match op, k with
  | .add, .i64 => match b with
   | .lit (.ofNat c) => Bool.rec (motive := fun _ => R) (κ (.bin .add .i64 a (.lit (.ofNat c)))) (Bool.rec (motive := fun _ => R) (iha fun a => κ (.bin .add .i64 a (.lit (.ofNat c)))) (forceN (Nat.mod c (nat_lit 65535)) fun d => κ (.bin .add .i64 a (.lit (.ofNat d)))) (Nat.ble (nat_lit 65535) c)) (rngIn rg a (.ofNat (nat_lit 1)) most62 && Nat.blt c (nat_lit 4611686018427387904))
   | b => Bool.rec (motive := fun _ => R) (κ (.bin .add .i64 a b)) (iha fun a => κ (.bin .add .i64 a b)) (rngIn rg a (.ofNat (nat_lit 1)) most62 && rngIn rg b (.ofNat (nat_lit 0)) most62)
  | op, k => κ (.bin op k a b))
 (fun k a _ κ => κ (.conv k a)) (fun a _ κ => κ (.fold a)) (fun a p o n _ _ κ => κ (.rs a p o n)) e
def foldS (rg : List (Int × Int)) (e : SI) (κ : SI → R) : R := Bool.rec (motive := fun _ => R) (Bool.rec (motive := fun _ => R) (κ (.fold e)) (redK rg e fun e => κ (.fold e)) (rngIn rg e (.ofNat (nat_lit 1)) most62)) (κ (.lit (.ofNat (nat_lit 65535)))) (onesK rg e)
def foldK (rg : List (Int × Int)) (e : SI) : (SI → R) → R → R := SI.rec (motive := fun _ => (SI → R) → R → R) (fun n κ alt => foldLit n κ alt) (fun i κ _ => foldS rg (.var i) κ) (fun o k a b _ _ κ _ => foldS rg (.bin o k a b) κ) (fun k a _ κ _ => foldS rg (.conv k a) κ) (fun a _ κ _ => foldS rg (.fold a) κ) (fun a p o n _ _ κ _ => foldS rg (.rs a p o n) κ) e
def foldA (l : List AV) (s : St) (κ : AV → St → R) (alt : R) : R := match l with
 | [.int .i64 e] => foldK s.pc.rg e (fun e => κ (.int .i64 e) s) alt
 | _ => alt
def sumFold : Sums := fun f l s κ alt => Bool.rec (motive := fun _ => R) alt (foldA l s κ alt) (Nat.beq f 105)
def partL (l : List AV) : Bool → SI → (SI → R) → R := List.rec (motive := fun _ => Bool → SI → (SI → R) → R) (fun _ a κ => κ a)
 (fun v _ ih b a κ => intV v (nat_lit 301) fun k e => Bool.rec (motive := fun _ => R) (.fail 302) (convK .i64 e fun e => binK .shl .i64 e (.lit (.ofNat (Bool.rec (motive := fun _ => Nat) (nat_lit 0) (nat_lit 8) b))) fun x => binK .add .i64 a x fun a => ih (notF b) a κ) (kindEq k .u8)) l
def partO (rg : List (Int × Int)) (off len : Nat) (κ : SI → R) (alt : R) (n : Nat) (c : Tr AV) (d : Option AV) (T : TypeId) (r : Bool) : R :=
 Bool.rec (motive := fun _ => R) (.fail 303) (ldN c d off len fun l => partL l true (.lit (.ofNat (nat_lit 0))) fun e => foldK rg e κ alt) (Nat.ble (Nat.add off len) n && Nat.blt len (nat_lit 4611686018427387904))
def partS' (l : List AV) (s : St) (κ : AV → St → R) (alt : R) : R := match l with
 | [.sl id off len _] => objK s.hp id (partO s.pc.rg off len (fun e => κ (.int .i64 e) s) alt)
 | _ => alt
def sumPart : Sums := fun f l s κ alt => Bool.rec (motive := fun _ => R) alt (partS' l s κ alt) (Nat.beq f 88)
end
theorem foldZ_congr {n m : Int} (hn : 0 < n) (hn' : n < 9223372036854775808) (hm : 0 < m) (hm' : m < 9223372036854775808) (h : (65535 : Int) ∣ n - m) : foldZ n = foldZ m := by
 have a1 := foldZ_mod (n.toNat + 1) n (by omega) hn' (by omega)
 have a2 := foldZ_mod (m.toNat + 1) m (by omega) hm' (by omega)
 have b1 := foldZ_pos (n.toNat + 1) n hn hn' (by omega)
 have b2 := foldZ_pos (m.toNat + 1) m hm hm' (by omega)
 have c1 := foldZ_in (n.toNat + 1) n (by omega) hn' (by omega)
 have c2 := foldZ_in (m.toNat + 1) m (by omega) hm' (by omega)
 omega
theorem redK_inv {rg : List (Int × Int)} {D : Dn} : ∀ (e : SI) {κ : SI → R}, redK rg e κ ∈ D → ∃ u, κ u ∈ D ∧ ∀ ρ, RgOk ρ rg → 1 ≤ e.ev ρ → 0 < u.ev ρ ∧ u.ev ρ ≤ e.ev ρ ∧ (65535 : Int) ∣ e.ev ρ - u.ev ρ := by
 intro e
 have self : ∀ {e : SI} {κ : SI → R}, κ e ∈ D → ∃ u, κ u ∈ D ∧ ∀ ρ, RgOk ρ rg → 1 ≤ e.ev ρ → 0 < u.ev ρ ∧ u.ev ρ ≤ e.ev ρ ∧ (65535 : Int) ∣ e.ev ρ - u.ev ρ := fun {e κ} h => ⟨e, h, fun ρ hr h1 => ⟨by omega, Int.le_refl _, by simp⟩⟩
 induction e with
 | lit n => intro κ h; exact self h
 | var i => intro κ h; exact self h
 | conv k a _ => intro κ h; exact self h
 | fold a _ => intro κ h; exact self h
 | rs _ _ _ _ _ _ => intro κ h; exact self h
 | bin op k a b iha ihb =>
  intro κ h
  -- two that are added
  have add2 : ∀ {b' : SI}, (rngIn rg a (.ofNat (nat_lit 1)) most62 = true) → (∀ ρ, RgOk ρ rg → 0 ≤ b'.ev ρ ∧ b'.ev ρ ≤ 4611686018427387903) → redK rg a (fun a => κ (.bin .add .i64 a b')) ∈ D → ∃ u, κ u ∈ D ∧ ∀ ρ, RgOk ρ rg → 1 ≤ (SI.bin .add .i64 a b').ev ρ → 0 < u.ev ρ ∧ u.ev ρ ≤ (SI.bin .add .i64 a b').ev ρ ∧ (65535 : Int) ∣ (SI.bin .add .i64 a b').ev ρ - u.ev ρ := by
   intro b' ha hb h
   obtain ⟨u, h1, h2⟩ := iha h
   refine ⟨_, h1, fun ρ hr h3 => ?_⟩
   have ha := rngIn_ok hr ha
   have a1 : (1 : Int) ≤ a.ev ρ := ha.1
   have a2 : a.ev ρ ≤ 4611686018427387903 := ha.2
   obtain ⟨b1, b2⟩ := hb ρ hr
   obtain ⟨c1, c2, c3⟩ := h2 ρ hr a1
   have e1 : (SI.bin .add .i64 a b').ev ρ = a.ev ρ + b'.ev ρ := by
    show IntKind.i64.wrap (a.ev ρ + b'.ev ρ) = _
    rw [wrap_i64']; omega
   have e2 : (SI.bin .add .i64 u b').ev ρ = u.ev ρ + b'.ev ρ := by
    show IntKind.i64.wrap (u.ev ρ + b'.ev ρ) = _
    rw [wrap_i64']; omega
   rw [e1, e2]
   exact ⟨by omega, by omega, by omega⟩
  have other : ∀ {b' : SI}, (Bool.rec (motive := fun _ => R) (κ (.bin .add .i64 a b')) (redK rg a fun a => κ (.bin .add .i64 a b')) (rngIn rg a (.ofNat (nat_lit 1)) most62 && rngIn rg b' (.ofNat (nat_lit 0)) most62)) ∈ D → ∃ u, κ u ∈ D ∧ ∀ ρ, RgOk ρ rg → 1 ≤ (SI.bin .add .i64 a b').ev ρ → 0 < u.ev ρ ∧ u.ev ρ ≤ (SI.bin .add .i64 a b').ev ρ ∧ (65535 : Int) ∣ (SI.bin .add .i64 a b').ev ρ - u.ev ρ := by
   intro b' h
   rcases brec_cases h with ⟨h1, h2⟩ | ⟨_, h2⟩
   ·rw [Bool.and_eq_true] at h1
    exact add2 h1.1 (fun ρ hr => rngIn_ok hr h1.2) h2
   ·exact self h2
  cases op <;> first | exact self h | skip
  cases k <;> first | exact self h | skip
  cases b with
  | lit m =>
   cases m with
   | ofNat c =>
    have h : Bool.rec (motive := fun _ => R) (κ (.bin .add .i64 a (.lit (.ofNat c)))) (Bool.rec (motive := fun _ => R) (redK rg a fun a => κ (.bin .add .i64 a (.lit (.ofNat c)))) (forceN (Nat.mod c (nat_lit 65535)) fun d => κ (.bin .add .i64 a (.lit (.ofNat d)))) (Nat.ble (nat_lit 65535) c)) (rngIn rg a (.ofNat (nat_lit 1)) most62 && Nat.blt c (nat_lit 4611686018427387904)) ∈ D := h
    rcases brec_cases h with ⟨h1, h2⟩ | ⟨_, h2⟩
    ·simp only [Bool.and_eq_true, natBlt, decide_eq_true_eq] at h1
     obtain ⟨ha, hc⟩ := h1
     rcases brec_cases h2 with ⟨h3, h4⟩ | ⟨_, h4⟩
     ·rw [natBle] at h3
      have h3 : 65535 ≤ c := of_decide_eq_true h3
      rw [forceN_eq] at h4
      refine ⟨_, h4, fun ρ hr _ => ?_⟩
      have ha := rngIn_ok hr ha
      have a1 : (1 : Int) ≤ a.ev ρ := ha.1
      have a2 : a.ev ρ ≤ 4611686018427387903 := ha.2
      have hm : Nat.mod c 65535 = c % 65535 := rfl
      have hd : c % 65535 ≤ c := Nat.mod_le _ _
      have e1 : (SI.bin .add .i64 a (.lit (.ofNat c))).ev ρ = a.ev ρ + (c : Int) := by
       show IntKind.i64.wrap (a.ev ρ + (c : Int)) = _
       rw [wrap_i64']; omega
      have e2 : (SI.bin .add .i64 a (.lit (.ofNat (Nat.mod c 65535)))).ev ρ = a.ev ρ + ((c % 65535 : Nat) : Int) := by
       show IntKind.i64.wrap (a.ev ρ + ((c % 65535 : Nat) : Int)) = _
       rw [wrap_i64']; omega
      rw [e1, e2]
      exact ⟨by omega, by omega, by omega⟩
     ·exact add2 ha (fun ρ hr => ⟨Int.natCast_nonneg c, by show (c : Int) ≤ _; omega⟩) h4
    ·exact self h2
   | negSucc m => exact other h
  | var _ => exact other h
  | bin _ _ _ _ => exact other h
  | conv _ _ => exact other h
  | fold _ => exact other h
  | rs _ _ _ _ => exact other h
theorem foldS_inv {rg : List (Int × Int)} {e : SI} {κ : SI → R} {D : Dn} (h : foldS rg e κ ∈ D) : ∃ u, κ u ∈ D ∧ ∀ ρ, RgOk ρ rg → u.ev ρ = foldZ (e.ev ρ) := by
 unfold foldS at h
 rcases brec_cases h with ⟨h1, h2⟩ | ⟨_, h2⟩
 ·exact ⟨_, h2, fun ρ hr => (onesK_ok h1 hr).symm⟩
 ·rcases brec_cases h2 with ⟨h3, h4⟩ | ⟨_, h4⟩
  ·obtain ⟨u, h5, h6⟩ := redK_inv e h4
   refine ⟨_, h5, fun ρ hr => ?_⟩
   have he := rngIn_ok hr h3
   have e1 : (1 : Int) ≤ e.ev ρ := he.1
   have e2 : e.ev ρ ≤ 4611686018427387903 := he.2
   obtain ⟨c1, c2, c3⟩ := h6 ρ hr e1
   show foldZ (u.ev ρ) = foldZ (e.ev ρ)
   exact foldZ_congr c1 (by omega) (by omega) (by omega) (by omega)
  ·exact ⟨_, h4, fun _ _ => rfl⟩
theorem foldK_inv {rg : List (Int × Int)} {e : SI} {κ : SI → R} {alt : R} {D : Dn} (h : foldK rg e κ alt ∈ D) : alt ∈ D ∨ ∃ u, κ u ∈ D ∧ ∀ ρ, RgOk ρ rg → u.ev ρ = foldZ (e.ev ρ) := by
 cases e with
 | lit n =>
  have h : foldLit n κ alt ∈ D := h
  unfold foldLit at h
  rcases brec_cases h with ⟨hb, h1⟩ | ⟨_, h1⟩
  ·simp only [Bool.and_eq_true, notF_eq, bltF_eq, Bool.not_eq_true', decide_eq_false_iff_not, decide_eq_true_eq, Int.ofNat_eq_natCast] at hb
   rw [forceI_eq] at h1
   exact .inr ⟨_, h1, fun ρ _ => foldF_eq (by omega) (by omega)⟩
  ·exact .inl h1
 | var i => exact .inr (foldS_inv h)
 | bin o k a b => exact .inr (foldS_inv h)
 | conv k a => exact .inr (foldS_inv h)
 | fold a => exact .inr (foldS_inv h)
 | rs a p o n => exact .inr (foldS_inv h)
theorem sumFold_ok : SumsOk Tryz.prog sumFold := by
 intro ρ f l s κ alt D h
 unfold sumFold at h
 rcases brec_cases h with ⟨hf, h1⟩ | ⟨_, h1⟩
 ·rw [natBeq] at hf
  have hf := of_decide_eq_true hf
  subst hf
  unfold foldA at h1
  split at h1
  ·rename_i e
   rcases foldK_inv h1 with h2 | ⟨u, h2, h3⟩
   ·exact .inl h2
   ·refine .inr ⟨_, s, h2, .refl _, fun {w0 φ w xs} hρ hx hm => CallsOr.of (enter_of Tryz.func105 (by kernel_rfl) (by kernel_rfl) _ w) ?_⟩
    obtain ⟨y, ys, e1, e2, rfl⟩ := concL_cons.1 hx
    simp only [concL, Option.some.injEq] at e2
    subst e2
    simp only [conc, Option.some.injEq] at e1
    subst e1
    refine (fold_any (e.ev ρ) w).mono fun e' w' ⟨he, hk⟩ => ⟨φ, _, he, List.prefix_refl _, ?_, hm.keeps hk⟩
    simp only [conc]
    rw [h3 ρ hρ.rg]
  ·exact .inl h1
 ·exact .inl h1
def sumL (ρ : Nat → Int) : List AV → Nat → Int → Int
 | [], _, a => a
 | v :: l, i, a => sumL ρ l (i + 1) (wrap64 (a + binZ .shl .i64 (wrap64 (match v with | .int _ e => e.ev ρ | _ => 0)) (shZ i)))
theorem partL_inv {D : Dn} : ∀ {l : List AV} {i : Nat} {a : SI} {κ : SI → R}, partL l (decide (i % 2 = 0)) a κ ∈ D → ∃ u, κ u ∈ D ∧ (∀ v ∈ l, ∃ e, v = .int .u8 e) ∧ ∀ ρ, u.ev ρ = sumL ρ l i (a.ev ρ)
 | [], i, a, κ, h => ⟨a, h, (fun v hv => by cases hv), fun _ => rfl⟩
 | v :: l, i, a, κ, h => by
  have h : intV v (nat_lit 301) (fun k e => Bool.rec (motive := fun _ => R) (.fail 302) (convK .i64 e fun e => binK .shl .i64 e (.lit (.ofNat (Bool.rec (motive := fun _ => Nat) (nat_lit 0) (nat_lit 8) (decide (i % 2 = 0))))) fun x => binK .add .i64 a x fun a => partL l (notF (decide (i % 2 = 0))) a κ) (kindEq k .u8)) ∈ D := h
  obtain ⟨k, e, rfl, h1⟩ := intV_inv h
  obtain ⟨hk, h2⟩ := brec_inv h1
  have hk := kindEq_of hk
  subst hk
  obtain ⟨e1, q1, q2⟩ := convK_spec .i64 e (fun e => binK .shl .i64 e (.lit (.ofNat (Bool.rec (motive := fun _ => Nat) (nat_lit 0) (nat_lit 8) (decide (i % 2 = 0))))) fun x => binK .add .i64 a x fun a => partL l (notF (decide (i % 2 = 0))) a κ)
  rw [q1] at h2
  obtain ⟨e2, q3, q4⟩ := binK_spec .shl .i64 e1 (.lit (.ofNat (Bool.rec (motive := fun _ => Nat) (nat_lit 0) (nat_lit 8) (decide (i % 2 = 0))))) (fun x => binK .add .i64 a x fun a => partL l (notF (decide (i % 2 = 0))) a κ)
  rw [q3] at h2
  obtain ⟨e3, q5, q6⟩ := binK_spec .add .i64 a e2 (fun a => partL l (notF (decide (i % 2 = 0))) a κ)
  rw [q5] at h2
  have hb : notF (decide (i % 2 = 0)) = decide ((i + 1) % 2 = 0) := by
   rw [notF_eq]
   by_cases hi : i % 2 = 0
   ·rw [decide_eq_true hi, decide_eq_false (by omega : ¬ (i + 1) % 2 = 0)]; rfl
   ·rw [decide_eq_false hi, decide_eq_true (by omega : (i + 1) % 2 = 0)]; rfl
  rw [hb] at h2
  obtain ⟨u, h3, h4, h5⟩ := partL_inv h2
  refine ⟨u, h3, fun v hv => ?_, fun ρ => ?_⟩
  ·simp only [List.mem_cons] at hv
   rcases hv with rfl | hv
   ·exact ⟨_, rfl⟩
   ·exact h4 v hv
  ·rw [h5]
   show _ = sumL ρ l (i + 1) _
   congr 1
   rw [q6, q4, q2]
   simp only [SI.ev, binZ]
   have hs : (Int.ofNat (Bool.rec (motive := fun _ => Nat) 0 8 (decide (i % 2 = 0)))) = shZ i := by
    unfold shZ
    by_cases hi : i % 2 = 0
    ·rw [decide_eq_true hi, if_pos hi]; rfl
    ·rw [decide_eq_false hi, if_neg hi]; rfl
   rw [show (Int.ofNat (Bool.rec (motive := fun _ => Nat) (nat_lit 0) (nat_lit 8) (decide (i % 2 = 0)))) = shZ i from hs]
   simp only [wrap_i64', wrap64_eq]
def valL (ρ : Nat → Int) (l : List AV) (i : Nat) : Int := match l[i]? with
 | some (.int _ e) => e.ev ρ
 | _ => 0
theorem sumL_eq (ρ : Nat → Int) (l : List AV) : ∀ (k i : Nat), i + k = l.length → sumL ρ (l.drop i) i (sumZ (valL ρ l) i) = sumZ (valL ρ l) l.length
 | 0, i, h => by
  have : i = l.length := by omega
  subst this
  rw [List.drop_length]
  rfl
 | k + 1, i, h => by
  have hi : i < l.length := by omega
  rw [List.drop_eq_getElem_cons hi]
  show sumL ρ (l.drop (i + 1)) (i + 1) _ = _
  rw [← sumL_eq ρ l k (i + 1) (by omega)]
  congr 1
  show wrap64 _ = wrap64 _
  congr 3
  unfold valL
  rw [List.getElem?_eq_getElem hi]
  cases l[i] <;> rfl
theorem sumPart_ok : SumsOk Tryz.prog sumPart := by
 intro ρ f l s κ alt D h
 unfold sumPart at h
 rcases brec_cases h with ⟨hf, h1⟩ | ⟨_, h1⟩
 ·rw [natBeq] at hf
  have hf := of_decide_eq_true hf
  subst hf
  unfold partS' at h1
  split at h1
  ·rename_i id off len cap
   obtain ⟨n, c, d, T, r, hid, h2⟩ := objK_inv h1
   unfold partO at h2
   obtain ⟨hb, h3⟩ := brec_inv h2
   simp only [Bool.and_eq_true, natBle, natBlt, decide_eq_true_eq] at hb
   have hb1 : off + len ≤ n := hb.1
   obtain ⟨cl, hl, h4, hcl⟩ := ldN_inv h3
   obtain ⟨u, h5, h6, h7⟩ := partL_inv (i := 0) h4
   rcases foldK_inv h5 with h8 | ⟨x, h8, h9⟩
   ·exact .inl h8
   ·refine .inr ⟨_, s, h8, .refl _, fun {w0 φ w xs} hρ hx hm => CallsOr.of (enter_of Tryz.func88 (by kernel_rfl) (by kernel_rfl) _ w) ?_⟩
    obtain ⟨y, ys, e1, e2, rfl⟩ := concL_cons.1 hx
    simp only [concL, Option.some.injEq] at e2
    subst e2
    obtain ⟨p, hp, rfl⟩ := conc_sl e1
    obtain ⟨p', arr, fz, hp', hc⟩ := hm.hp.obj _ _ hid
    rw [hp] at hp'; cases hp'
    obtain ⟨vs, q1, q2⟩ := cells_row hc cl off (by rw [hl]; exact hb1) (by rw [hl]; exact hcl)
    refine (part_any p.blk (p.sh + off) len _ (valL ρ cl) hb.2 w fun i hi => ?_).mono fun e w' ⟨he, hk⟩ => ⟨φ, _, he, List.prefix_refl _, ?_, hm.keeps hk⟩
    ·have hi' : i < cl.length := by rw [hl]; exact hi
     obtain ⟨e, he⟩ := h6 cl[i] (List.getElem_mem hi')
     obtain ⟨v, r1, r2⟩ := concL_get q1 (List.getElem?_eq_getElem hi')
     have r3 := q2 i v r2
     rw [add_plain] at r3
     rw [r3]
     unfold valL
     rw [List.getElem?_eq_getElem hi', he]
     rw [he] at r1
     simp only [conc, Option.some.injEq] at r1
     rw [← r1]
    ·simp only [conc]
     rw [h9 ρ hρ.rg, h7]
     have := sumL_eq ρ cl cl.length 0 (by omega)
     rw [List.drop_zero, show sumZ (valL ρ cl) 0 = 0 from rfl, hl] at this
     rw [show SI.ev ρ (.lit (.ofNat (nat_lit 0))) = 0 from rfl, this]
  ·exact .inl h1
 ·exact .inl h1
noncomputable def sumsB : Sums := sumOr sumFold sumPart
theorem sumsB_ok : SumsOk Tryz.prog sumsB := sumOr_ok sumFold_ok sumPart_ok
end Go.Proofs.YtooebogidjejoaaGreat
namespace Go.Proofs.YtooebogidjejoaaGreat
open Go Go.RowKit
noncomputable section
def partB (l : List SI) : Bool → SI → (Bool → SI → R) → R := List.rec (motive := fun _ => Bool → SI → (Bool → SI → R) → R) (fun b a κ => κ b a)
 (fun e _ ih b a κ => convK .i64 e fun e => binK .shl .i64 e (.lit (.ofNat (Bool.rec (motive := fun _ => Nat) (nat_lit 0) (nat_lit 8) b))) fun x => binK .add .i64 a x fun a => ih (notF b) a κ) l
def zeroCs (cs : List Ch) : Bool := List.rec (motive := fun _ => Bool) true (fun c _ ih => Ch.rec (motive := fun _ => Bool) (fun _ => false) (fun _ v => isZ v) (fun _ _ _ => false) c && ih) cs
def parN (b : Bool) : Nat := Bool.rec (motive := fun _ => Nat) (nat_lit 1) (nat_lit 0) b
def partC (cs : List Ch) : Bool → SI → (SI → R) → R := List.rec (motive := fun _ => Bool → SI → (SI → R) → R) (fun _ a κ => κ a)
 (fun c cs ih b a κ => Ch.rec (motive := fun _ => R) (fun l => partB l b a fun b a => ih b a κ) (fun n v => Bool.rec (motive := fun _ => R) (.fail 480) (κ a) (isZ v && zeroCs cs)) (fun j o n => Bool.rec (motive := fun _ => R) (.fail 481) (binK .add .i64 a (.rs j (parN b) o n) κ) (zeroCs cs)) c) cs
def plS (pc : PC) (a b : SI) (κ : SI → R) : R := plE pc a b fun e => stripK pc.rg e κ
def mrg1 (pc : PC) (c : Ch) (r : List Ch) (κ : List Ch → R) : R := match c, r with
 | .row a o n, .row b p m :: t => Bool.rec (motive := fun _ => R) (κ (.row a o n :: .row b p m :: t)) (plS pc o n fun e => Bool.rec (motive := fun _ => R) (κ (.row a o n :: .row b p m :: t)) (plS pc n m fun k => κ (.row a o k :: t)) (SI.beq e p)) (Nat.beq a b)
 | c, r => κ (c :: r)
def mrgK (pc : PC) (cs : List Ch) : (List Ch → R) → R := List.rec (motive := fun _ => (List Ch → R) → R) (fun κ => κ []) (fun c _ ih κ => ih fun r => mrg1 pc c r κ) cs
def partR (l : List AV) (s : St) (κ : AV → St → R) (alt : R) : R := match l with
 | [x] => Bool.rec (motive := fun _ => R) alt (lenS s.pc x fun n => Bool.rec (motive := fun _ => R) (.fail 483) (readR s.hp s.pc x fun cs pc => mrgK pc cs fun cs => partC cs true zeroS fun e => foldK pc.rg e (fun e => κ (.int .i64 e) ⟨s.hp, s.nx, pc⟩) (.fail 482)) (ltB s.pc.rg n)) (ropy s.hp x)
 | _ => alt
def sumPartR : Sums := fun f l s κ alt => Bool.rec (motive := fun _ => R) alt (partR l s κ alt) (Nat.beq f 88)
end
def stp (a z : Int) (i : Nat) : Int := wrap64 (a + binZ .shl .i64 (wrap64 z) (shZ i))
def sumI : List Int → Nat → Int → Int
 | [], _, a => a
 | z :: l, i, a => sumI l (i + 1) (stp a z i)
theorem sumI_app : ∀ (l m : List Int) (i : Nat) (a : Int), sumI (l ++ m) i a = sumI m (i + l.length) (sumI l i a)
 | [], m, i, a => rfl
 | z :: l, m, i, a => by
  show sumI (l ++ m) (i + 1) (stp a z i) = _
  rw [sumI_app l m]
  show sumI m (i + 1 + l.length) _ = sumI m (i + (l.length + 1)) _
  congr 1
  omega
def valZ (zs : List Int) (i : Nat) : Int := (zs[i]?).getD 0
theorem sumI_eq (zs : List Int) : ∀ (k i : Nat), i + k = zs.length → sumI (zs.drop i) i (sumZ (valZ zs) i) = sumZ (valZ zs) zs.length
 | 0, i, h => by
  have : i = zs.length := by omega
  subst this
  rw [List.drop_length]; rfl
 | k + 1, i, h => by
  have hi : i < zs.length := by omega
  rw [List.drop_eq_getElem_cons hi]
  show sumI (zs.drop (i + 1)) (i + 1) _ = _
  rw [← sumI_eq zs k (i + 1) (by omega)]
  congr 1
  show wrap64 _ = wrap64 _
  congr 3
  unfold valZ
  rw [List.getElem?_eq_getElem hi]
  rfl
def Rg64 (a : Int) : Prop := wrap64 a = a
theorem rg_stp (a z : Int) (i : Nat) : Rg64 (stp a z i) := by
 unfold Rg64 stp
 rw [wrap64_eq, wrap64_eq]
 omega
theorem rg_sumI : ∀ (l : List Int) (i : Nat) (a : Int), Rg64 a → Rg64 (sumI l i a)
 | [], _, _, h => h
 | z :: l, i, a, _ => rg_sumI l (i + 1) _ (rg_stp a z i)
theorem stp_byte {a z : Int} {i : Nat} (h0 : 0 ≤ z) (h1 : z ≤ 255) : stp a z i = wrap64 (a + z * (if i % 2 = 0 then 256 else 1)) := by
 have hz : wrap64 z = z := by rw [wrap64_eq]; omega
 unfold stp
 rw [hz]
 congr 2
 unfold shZ
 by_cases h : i % 2 = 0
 ·rw [if_pos h, if_pos h]
  show IntKind.i64.wrap (z * 2 ^ (min 8 64)) = z * 256
  rw [wrap_i64']
  have : (2 : Int) ^ (min 8 64) = 256 := by decide
  rw [this]
  omega
 ·rw [if_neg h, if_neg h]
  show IntKind.i64.wrap (z * 2 ^ (min 0 64)) = z * 1
  rw [wrap_i64']
  have : (2 : Int) ^ (min 0 64) = 1 := by decide
  rw [this]
  omega
theorem sumI_row {ρ : Nat → Int} {j o : Nat} {a : Int} (ha : Rg64 a) (p i : Nat) (hp : p % 2 = i % 2) : ∀ n : Nat, sumI ((List.range n).map fun k => rowB ρ j (o + k)) i a = wrap64 (a + rsZ ρ j p o n)
 | 0 => by
  show a = wrap64 (a + 0)
  rw [Int.add_zero]
  exact ha.symm
 | n + 1 => by
  rw [List.range_succ, List.map_append, sumI_app, sumI_row ha p i hp n]
  obtain ⟨h1, h2⟩ := rowB_in ρ j (o + n)
  show stp (wrap64 (a + rsZ ρ j p o n)) (rowB ρ j (o + n)) (i + ((List.range n).map fun k => rowB ρ j (o + k)).length) = _
  rw [stp_byte h1 h2, List.length_map, List.length_range]
  have e : (if (i + n) % 2 = 0 then (256 : Int) else 1) = if (p + n) % 2 = 0 then 256 else 1 := by
   by_cases h : (i + n) % 2 = 0
   ·rw [if_pos h, if_pos (by omega)]
   ·rw [if_neg h, if_neg (by omega)]
  rw [e]
  show wrap64 (wrap64 (a + rsZ ρ j p o n) + _) = wrap64 (a + (rsZ ρ j p o n + rowB ρ j (o + n) * (if (p + n) % 2 = 0 then 256 else 1)))
  generalize rowB ρ j (o + n) * (if (p + n) % 2 = 0 then (256 : Int) else 1) = y
  generalize rsZ ρ j p o n = x
  rw [wrap64_eq, wrap64_eq, wrap64_eq]
  omega
theorem sumI_zero {a : Int} (ha : Rg64 a) : ∀ (l : List Int) (i : Nat), (∀ z ∈ l, z = 0) → sumI l i a = a
 | [], _, _ => rfl
 | z :: l, i, h => by
  have hz : z = 0 := h z (by simp)
  subst hz
  show sumI l (i + 1) (stp a 0 i) = a
  rw [stp_byte (by omega) (by omega), Int.zero_mul, Int.add_zero, ha]
  exact sumI_zero ha l (i + 1) fun z hz => h z (by simp [hz])
theorem zeroCs_ok {ρ : Nat → Int} : ∀ {cs : List Ch}, zeroCs cs = true → ∀ z ∈ ropeZ ρ cs, z = 0
 | [], _, z, hz => by cases hz
 | c :: cs, h, z, hz => by
  cases c with
  | bs l => cases h
  | row _ _ _ => cases h
  | fil n v =>
   have h : (isZ v && zeroCs cs) = true := h
   rw [Bool.and_eq_true] at h
   rw [ropeZ_cons, List.mem_append] at hz
   rcases hz with hz | hz
   ·simp only [Ch.zs, List.mem_replicate] at hz
    rw [hz.2, isZ_ev h.1]
   ·exact zeroCs_ok h.2 z hz
theorem partB_inv {D : Dn} : ∀ {l : List SI} {i : Nat} {a : SI} {κ : Bool → SI → R}, partB l (decide (i % 2 = 0)) a κ ∈ D → ∃ u, κ (decide ((i + l.length) % 2 = 0)) u ∈ D ∧ ∀ ρ, u.ev ρ = sumI (l.map (SI.ev ρ)) i (a.ev ρ)
 | [], i, a, κ, h => ⟨a, h, fun _ => rfl⟩
 | e :: l, i, a, κ, h => by
  have h2 : (convK .i64 e fun e => binK .shl .i64 e (.lit (.ofNat (Bool.rec (motive := fun _ => Nat) (nat_lit 0) (nat_lit 8) (decide (i % 2 = 0))))) fun x => binK .add .i64 a x fun a => partB l (notF (decide (i % 2 = 0))) a κ) ∈ D := h
  obtain ⟨e1, q1, q2⟩ := convK_spec .i64 e (fun e => binK .shl .i64 e (.lit (.ofNat (Bool.rec (motive := fun _ => Nat) (nat_lit 0) (nat_lit 8) (decide (i % 2 = 0))))) fun x => binK .add .i64 a x fun a => partB l (notF (decide (i % 2 = 0))) a κ)
  rw [q1] at h2
  obtain ⟨e2, q3, q4⟩ := binK_spec .shl .i64 e1 (.lit (.ofNat (Bool.rec (motive := fun _ => Nat) (nat_lit 0) (nat_lit 8) (decide (i % 2 = 0))))) (fun x => binK .add .i64 a x fun a => partB l (notF (decide (i % 2 = 0))) a κ)
  rw [q3] at h2
  obtain ⟨e3, q5, q6⟩ := binK_spec .add .i64 a e2 (fun a => partB l (notF (decide (i % 2 = 0))) a κ)
  rw [q5] at h2
  have hb : notF (decide (i % 2 = 0)) = decide ((i + 1) % 2 = 0) := by
   rw [notF_eq]
   by_cases hi : i % 2 = 0
   ·rw [decide_eq_true hi, decide_eq_false (by omega : ¬ (i + 1) % 2 = 0)]; rfl
   ·rw [decide_eq_false hi, decide_eq_true (by omega : (i + 1) % 2 = 0)]; rfl
  rw [hb] at h2
  obtain ⟨u, h3, h5⟩ := partB_inv h2
  refine ⟨u, by rw [show i + (e :: l).length = i + 1 + l.length by simp only [List.length_cons]; omega]; exact h3, fun ρ => ?_⟩
  rw [h5]
  show _ = sumI (l.map (SI.ev ρ)) (i + 1) _
  congr 1
  rw [q6, q4, q2]
  simp only [SI.ev, binZ, stp]
  have hs : (Int.ofNat (Bool.rec (motive := fun _ => Nat) 0 8 (decide (i % 2 = 0)))) = shZ i := by
   unfold shZ
   by_cases hi : i % 2 = 0
   ·rw [decide_eq_true hi, if_pos hi]; rfl
   ·rw [decide_eq_false hi, if_neg hi]; rfl
  rw [show (Int.ofNat (Bool.rec (motive := fun _ => Nat) (nat_lit 0) (nat_lit 8) (decide (i % 2 = 0)))) = shZ i from hs]
  simp only [wrap_i64', wrap64_eq]
theorem partC_inv {D : Dn} : ∀ {cs : List Ch} {i : Nat} {a : SI} {κ : SI → R}, partC cs (decide (i % 2 = 0)) a κ ∈ D → ∃ u, κ u ∈ D ∧ ∀ ρ, Rg64 (a.ev ρ) → u.ev ρ = sumI (ropeZ ρ cs) i (a.ev ρ)
 | [], i, a, κ, h => ⟨a, h, fun _ _ => rfl⟩
 | .bs l :: cs, i, a, κ, h => by
  obtain ⟨u, h1, h2⟩ := partB_inv (show partB l (decide (i % 2 = 0)) a (fun b a => partC cs b a κ) ∈ D from h)
  obtain ⟨u', h3, h4⟩ := partC_inv h1
  refine ⟨u', h3, fun ρ ha => ?_⟩
  rw [h4 ρ (by rw [h2]; exact rg_sumI _ _ _ ha), h2, ropeZ_cons, sumI_app]
  simp [Ch.zs]
 | .fil n v :: cs, i, a, κ, h => by
  obtain ⟨hb, h1⟩ := brec_inv (show Bool.rec (motive := fun _ => R) (.fail 480) (κ a) (isZ v && zeroCs cs) ∈ D from h)
  refine ⟨a, h1, fun ρ ha => ?_⟩
  exact (sumI_zero ha _ i (zeroCs_ok (cs := .fil n v :: cs) hb)).symm
 | .row j o n :: cs, i, a, κ, h => by
  obtain ⟨hb, h1⟩ := brec_inv (show Bool.rec (motive := fun _ => R) (.fail 481) (binK .add .i64 a (.rs j (parN (decide (i % 2 = 0))) o n) κ) (zeroCs cs) ∈ D from h)
  obtain ⟨e, h2, h3⟩ := binK_spec .add .i64 a (.rs j (parN (decide (i % 2 = 0))) o n) κ
  rw [h2] at h1
  refine ⟨e, h1, fun ρ ha => ?_⟩
  have hp : parN (decide (i % 2 = 0)) % 2 = i % 2 := by
   by_cases hi : i % 2 = 0
   ·rw [decide_eq_true hi, hi]; rfl
   ·rw [decide_eq_false hi]
    have : i % 2 = 1 := by omega
    rw [this]; rfl
  rw [h3, ropeZ_cons, sumI_app, sumI_zero (rg_sumI _ _ _ ha) _ _ (zeroCs_ok hb)]
  simp only [Ch.zs]
  rw [sumI_row ha _ i hp]
  show IntKind.i64.wrap _ = _
  rw [wrap_i64', wrap64_eq]
  rfl
theorem readR_at' {P : Program} {ρ : Nat → Int} {D : Dn} {s : St} {x : AV} {pc : PC} {κ : List Ch → PC → R} (hro : (match x with | .sl _ _ _ _ => true | _ => ropy s.hp x) = true) (hD : readR s.hp pc x κ ∈ D) : ∃ cs pc', κ cs pc' ∈ D ∧ PcExt pc pc' ∧ ∀ {w0 φ w v}, Holds ρ pc' → Gm P ρ w0 φ s w → conc φ ρ x = some v →
  ∃ b o m c, v = .slice (some ⟨b, o, none⟩) m c ∧ m = (ropeZ ρ cs).length ∧ BytesAt w b o (ropeZ ρ cs) := by
 cases x with
 | sl id off len cap =>
  obtain ⟨o, ho, h1⟩ := optK_inv (show optK (s.hp.get id) 414 (fun o => readO o pc (natS off) (natS len) κ) ∈ D from hD)
  obtain ⟨cs, pc', h2, hx, _, h3⟩ := readO_inv h1
  refine ⟨cs, pc', h2, hx, fun {w0 φ w v} hρ hg hv => ?_⟩
  obtain ⟨p, hp, rfl⟩ := conc_sl hv
  obtain ⟨a1, a2, a3, a4, a5⟩ := h3 hρ (hg.hp.obj _ _ ho) hp
  exact ⟨_, _, _, _, rfl, a4.symm, a5⟩
 | ssl id o0 off len cap =>
  obtain ⟨o, ho, h1⟩ := optK_inv (show optK (s.hp.get id) 414 (fun o => readO o pc off len κ) ∈ D from hD)
  obtain ⟨cs, pc', h2, hx, _, h3⟩ := readO_inv h1
  refine ⟨cs, pc', h2, hx, fun {w0 φ w v} hρ hg hv => ?_⟩
  have hpl : ∃ p, φ[id]? = some p := by
   simp only [conc, Option.map_eq_some_iff] at hv
   obtain ⟨p, hp, _⟩ := hv
   exact ⟨p, hp⟩
  obtain ⟨p, hp⟩ := hpl
  obtain ⟨a1, a2, a3, a4, a5⟩ := h3 hρ (hg.hp.obj _ _ ho) hp
  cases cap with
  | some c =>
   rw [ssl_some hp] at hv
   cases hv
   exact ⟨_, _, _, _, rfl, a4.symm, a5⟩
  | none =>
   rw [ssl_none hp] at hv
   cases hv
   split
   ·rename_i hz
    rw [hz.1] at a4
    have hn : ropeZ ρ cs = [] := List.length_eq_zero_iff.1 a4
    rw [hn]
    exact ⟨_, _, _, _, rfl, rfl, fun i z hz => by simp at hz⟩
   ·exact ⟨_, _, _, _, rfl, a4.symm, a5⟩
 | fsl a o0 off len =>
  obtain ⟨e, h1, he⟩ := plE_inv (show plE pc off len (fun e => leD pc e (.var a) fun b pc => Bool.rec (motive := fun _ => R) (.fail 415) (κ [.row a off len] pc) (b && (Nat.ble (nat_lit 32) a && Nat.blt a (nat_lit 64)))) ∈ D from hD)
  obtain ⟨b, pc', h2, hx, hle⟩ := leD_inv h1
  obtain ⟨hb, h3⟩ := brec_inv h2
  simp only [Bool.and_eq_true, natBle, natBlt, decide_eq_true_eq] at hb
  obtain ⟨rfl, hj1, hj2⟩ := hb
  refine ⟨_, pc', h3, hx, fun {w0 φ w v} hρ hg hv => ?_⟩
  obtain ⟨m1, m2, m3, rfl⟩ := fsl_some hv
  obtain ⟨f1, f2, f3⟩ := he ρ (by rw [← hx.rg]; exact hρ.rg)
  have hl : e.ev ρ ≤ ρ a := (hle ρ hρ).1 rfl
  have hzl : (ropeZ ρ [.row a off len]).length = (len.ev ρ).toNat := by simp [ropeZ, Ch.zs]
  refine ⟨_, _, _, _, rfl, hzl.symm, fun i z hz => ?_⟩
  have hi : i < (len.ev ρ).toNat := by
   rw [← hzl]
   exact (List.getElem?_eq_some_iff.1 hz).1
  have hz2 : z = rowB ρ a ((off.ev ρ).toNat + i) := by
   simp only [ropeZ, List.flatMap_cons, List.flatMap_nil, List.append_nil, Ch.zs, List.getElem?_map, Option.map_eq_some_iff] at hz
   obtain ⟨i', h5, rfl⟩ := hz
   rw [List.getElem?_range hi] at h5
   cases h5
   rfl
  obtain ⟨_, _, hc⟩ := hg.fo a hj1 hj2 m1
  obtain ⟨arr, T, fz, b1, b2⟩ := hc ((off.ev ρ).toNat + i) (by omega)
  have hcap : ¬ (ρ (fCap a)).toNat ≤ (off.ev ρ).toNat := by omega
  rw [if_neg hcap]
  have hblk : w.heap[(ρ (fBlk a)).toNat]? = some (.cells arr T fz) := by
   rw [← b1]
   exact hg.kp.block _ (Array.getElem?_eq_some_iff.1 b1).1 (by simp)
  subst hz2
  simp only [World.cell?, hblk]
  show arr[(ρ (fOff a)).toNat + (off.ev ρ).toNat + i]? = _
  rw [Nat.add_assoc]
  exact b2
 | _ => cases hro
theorem readR_at {P : Program} {ρ : Nat → Int} {D : Dn} {s : St} {x : AV} {pc : PC} {κ : List Ch → PC → R} (hro : ropy s.hp x = true) (hD : readR s.hp pc x κ ∈ D) : ∃ cs pc', κ cs pc' ∈ D ∧ PcExt pc pc' ∧ ∀ {w0 φ w v}, Holds ρ pc' → Gm P ρ w0 φ s w → conc φ ρ x = some v →
  ∃ b o m c, v = .slice (some ⟨b, o, none⟩) m c ∧ m = (ropeZ ρ cs).length ∧ BytesAt w b o (ropeZ ρ cs) := by
 refine readR_at' ?_ hD
 split
 ·rfl
 ·exact hro
theorem plS_inv {D : Dn} {pc : PC} {a b : SI} {κ : SI → R} (h : plS pc a b κ ∈ D) : ∃ e, κ e ∈ D ∧ ∀ ρ, RgOk ρ pc.rg → e.ev ρ = a.ev ρ + b.ev ρ ∧ 0 ≤ a.ev ρ ∧ 0 ≤ b.ev ρ := by
 obtain ⟨e, h1, he⟩ := plE_inv h
 obtain ⟨u, hu, hev⟩ := stripK_eq (rg := pc.rg) e κ
 rw [hu] at h1
 exact ⟨u, h1, fun ρ hr => by rw [hev ρ hr]; exact he ρ hr⟩
theorem row_app {ρ : Nat → Int} {a : Nat} {o n p m k : SI} (h1 : p.ev ρ = o.ev ρ + n.ev ρ) (h2 : k.ev ρ = n.ev ρ + m.ev ρ) (ho : 0 ≤ o.ev ρ) (hn : 0 ≤ n.ev ρ) (hm : 0 ≤ m.ev ρ) : (Ch.row a o k).zs ρ = (Ch.row a o n).zs ρ ++ (Ch.row a p m).zs ρ := by
 simp only [Ch.zs, h1, h2]
 rw [show (n.ev ρ + m.ev ρ).toNat = (n.ev ρ).toNat + (m.ev ρ).toNat by omega, List.range_add, List.map_append, List.map_map]
 congr 1
 apply List.map_congr_left
 intro i _
 show rowB ρ a ((o.ev ρ).toNat + ((n.ev ρ).toNat + i)) = rowB ρ a ((o.ev ρ + n.ev ρ).toNat + i)
 congr 1
 omega
theorem mrg1_inv {D : Dn} {pc : PC} {c : Ch} {r : List Ch} {κ : List Ch → R} (h : mrg1 pc c r κ ∈ D) : ∃ cs, κ cs ∈ D ∧ ∀ ρ, RgOk ρ pc.rg → ropeZ ρ cs = c.zs ρ ++ ropeZ ρ r := by
 unfold mrg1 at h
 split at h
 ·rename_i a o n b p m t
  rcases brec_cases h with ⟨hab, h⟩ | ⟨_, h⟩
  ·rw [natBeq] at hab
   have hab := of_decide_eq_true hab
   subst hab
   obtain ⟨e, h, he⟩ := plS_inv h
   rcases brec_cases h with ⟨hep, h⟩ | ⟨_, h⟩
   ·obtain ⟨k, h, hk⟩ := plS_inv h
    refine ⟨_, h, fun ρ hr => ?_⟩
    obtain ⟨e1, e2, e3⟩ := he ρ hr
    obtain ⟨k1, k2, k3⟩ := hk ρ hr
    rw [SI.beq_eq _ _ hep] at e1
    rw [ropeZ_cons, ropeZ_cons, row_app e1 k1 e2 e3 k3, List.append_assoc]
   ·exact ⟨_, h, fun ρ _ => by rw [ropeZ_cons]⟩
  ·exact ⟨_, h, fun ρ _ => by rw [ropeZ_cons]⟩
 ·exact ⟨_, h, fun ρ _ => by rw [ropeZ_cons]⟩
theorem mrgK_inv {D : Dn} {pc : PC} : ∀ {cs : List Ch} {κ : List Ch → R}, mrgK pc cs κ ∈ D → ∃ cs', κ cs' ∈ D ∧ ∀ ρ, RgOk ρ pc.rg → ropeZ ρ cs' = ropeZ ρ cs
 | [], κ, h => ⟨[], h, fun _ _ => rfl⟩
 | c :: cs, κ, h => by
  obtain ⟨r, h1, h2⟩ := mrgK_inv (cs := cs) (show mrgK pc cs (fun r => mrg1 pc c r κ) ∈ D from h)
  obtain ⟨cs', h3, h4⟩ := mrg1_inv h1
  exact ⟨cs', h3, fun ρ hr => by rw [h4 ρ hr, h2 ρ hr, ropeZ_cons]⟩
theorem sumPartR_ok : SumsOk Tryz.prog sumPartR := by
 intro ρ f l s κ alt D h
 unfold sumPartR at h
 rcases brec_cases h with ⟨hf, h1⟩ | ⟨_, h1⟩
 ·rw [natBeq] at hf
  have hf := of_decide_eq_true hf
  subst hf
  unfold partR at h1
  split at h1
  ·rename_i x
   rcases brec_cases h1 with ⟨hro, h2⟩ | ⟨_, h2⟩
   ·obtain ⟨n, h2, hn⟩ := lenS_inv h2
    obtain ⟨hlt, h2⟩ := brec_inv h2
    obtain ⟨cs, pc', h3, hx, h4⟩ := readR_at (P := Tryz.prog) (ρ := ρ) hro h2
    obtain ⟨cs2, h3, hz⟩ := mrgK_inv h3
    obtain ⟨u, h5, h6⟩ := partC_inv (i := 0) h3
    rcases foldK_inv h5 with h8 | ⟨e, h8, h9⟩
    ·cases h8
    ·refine .inr ⟨_, _, h8, hx, fun {w0 φ w xs} hρ hxs hm => CallsOr.of (enter_of Tryz.func88 (by kernel_rfl) (by kernel_rfl) _ w) ?_⟩
     obtain ⟨y, ys, e1, e2, rfl⟩ := concL_cons.1 hxs
     simp only [concL, Option.some.injEq] at e2
     subst e2
     obtain ⟨b, o, m, c, rfl, hl, hb⟩ := h4 hρ hm e1
     have hsmall : m < 4611686018427387904 := by
      obtain ⟨l1, l2⟩ := ltB_ok hlt (ρ := ρ) (by rw [← hx.rg]; exact hρ.rg)
      obtain ⟨_, _, _, _, e3, e4⟩ := hn (by rw [← hx.rg]; exact hρ.rg) e1
      cases e3
      omega
     refine (part_any b o m c (valZ (ropeZ ρ cs)) hsmall w fun i hi => ?_).mono fun e' w' ⟨he, hk⟩ => ⟨φ, _, he, List.prefix_refl _, ?_, (hm.pc pc').keeps hk⟩
     ·rw [hl] at hi
      have := hb i _ (List.getElem?_eq_getElem hi)
      rw [this]
      unfold valZ
      rw [List.getElem?_eq_getElem hi]
      rfl
     ·simp only [conc]
      rw [h9 ρ hρ.rg, h6 ρ (by show wrap64 0 = 0; rw [wrap64_eq]; omega), hz ρ hρ.rg]
      have := sumI_eq (ropeZ ρ cs) (ropeZ ρ cs).length 0 (by omega)
      rw [List.drop_zero, show sumZ (valZ (ropeZ ρ cs)) 0 = 0 from rfl] at this
      rw [show SI.ev ρ zeroS = 0 from rfl, this, hl]
   ·exact .inl h2
  ·exact .inl h1
 ·exact .inl h1
end Go.Proofs.YtooebogidjejoaaGreat
namespace Go.Proofs.YtooebogidjejoaaGreat
open Go
noncomputable section
def atCell (s : St) (id off : Nat) (κ : SI → R) : R := objK s.hp id fun n c d T r => Bool.rec (motive := fun _ => R) (.fail 401) (cellK c d off fun v => intV v (nat_lit 402) fun k e => Bool.rec (motive := fun _ => R) (.fail 403) (κ e) (kindEq k .i64)) (Nat.blt off n)
def atLoad (l : List AV) (s : St) (κ : AV → St → R) (alt : R) : R := match l with
 | [.ptr id off] => atCell s id off fun e => κ (.int .i64 e) s
 | _ => alt
def sumLoad (f0 : FuncId) : Sums := fun f l s κ alt => Bool.rec (motive := fun _ => R) alt (atLoad l s κ alt) (Nat.beq f f0)
def atCas (l : List AV) (s : St) (κ : AV → St → R) (alt : R) : R := match l with
 | [.ptr id off, .int .i64 a, .int .i64 b] => atCell s id off fun e => Bool.rec (motive := fun _ => R) (.fail 404) (storeL s id off [.int .i64 b] fun s => κ (.bool (.lit true)) s) (SI.beq e a)
 | _ => alt
def sumCas (f0 : FuncId) : Sums := fun f l s κ alt => Bool.rec (motive := fun _ => R) alt (atCas l s κ alt) (Nat.beq f f0)
def ovlA (l : List AV) (s : St) (κ : AV → St → R) (alt : R) : R := match l with
 | [.sl i oi li ci, .sl j oj lj cj] => Bool.rec (motive := fun _ => R) (objK s.hp i fun n c d T r => objK s.hp j fun m c' d' T' r' => Bool.rec (motive := fun _ => R) (.fail 405) (κ (.bool (.lit false)) s) (notF r && Nat.blt (nat_lit 0) m)) alt (Nat.beq i j)
 | _ => alt
def sumOvl (f0 : FuncId) : Sums := fun f l s κ alt => Bool.rec (motive := fun _ => R) alt (ovlA l s κ alt) (Nat.beq f f0)
end
section
variable {P : Program} {f0 : FuncId} {fn : Func}
theorem sumOvl_ok (hf : P.funcs[f0]? = some fn) (hname : (fn.name == "runtime.NumGoroutine") = false) (hb : fn.body.isNone = true) (hn : Extern.findNext fn = none) {tS tR e : TypeId} {sz : Nat} (ht : P.underlying tS = some (.slice e)) (hz : sizeA P e = some sz) (he : Extern.find fn = some (Extern.SlicesOverlaps.overlaps #[tS, tS] #[tR])) : SumsOk P (sumOvl f0) := by
 intro ρ f l s κ alt D h
 unfold sumOvl at h
 rcases brec_cases h with ⟨hff, h1⟩ | ⟨_, h1⟩
 ·rw [natBeq, decide_eq_true_eq] at hff
  subst hff
  unfold ovlA at h1
  split at h1
  ·rename_i i oi li ci j oj lj cj
   rcases brec_cases h1 with ⟨_, h2⟩ | ⟨hij, h2⟩
   ·exact .inl h2
   ·rw [natBeq] at hij
    have hij := of_decide_eq_false hij
    obtain ⟨n, c, d, T, r, hi, h3⟩ := objK_inv h2
    obtain ⟨m, c', d', T', r', hj, h4⟩ := objK_inv h3
    obtain ⟨hr, h5⟩ := brec_inv h4
    simp only [Bool.and_eq_true, notF_eq, Bool.not_eq_true', natBlt, decide_eq_true_eq] at hr
    obtain ⟨rfl, hm0⟩ := hr
    refine .inr ⟨_, s, h5, .refl _, fun {w0 φ w xs} hρ hx hm => ?_⟩
    obtain ⟨y, ys, e1, e2, rfl⟩ := concL_cons.1 hx
    obtain ⟨y2, ys2, e3, e4, rfl⟩ := concL_cons.1 e2
    simp only [concL, Option.some.injEq] at e4
    subst e4
    obtain ⟨p, hp, rfl⟩ := conc_sl e1
    obtain ⟨q, hq, rfl⟩ := conc_sl e3
    obtain ⟨p', arr, fz, hp', hc⟩ := hm.hp.obj _ _ hi
    rw [hp] at hp'; cases hp'
    obtain ⟨q', arr', fz', hq', hc'⟩ := hm.hp.obj _ _ hj
    rw [hq] at hq'; cases hq'
    have hne : p.blk ≠ q.blk := fun h => hij (hm.hp.sep i j _ _ p q hi hj rfl rfl hp hq h)
    obtain ⟨_, _, hfz, _⟩ := hc.fix rfl
    subst hfz
    refine .inr ⟨.bool false, w, ?_, φ, List.prefix_refl _, rfl, hm⟩
    rw [run_callFunc_extern hf hname hb hn he, Lib.run_overlaps_apart w tS tR e ht sz (fun w => run_size hz) _ _ _ _ _ _ hne T T' arr.size arr'.size]
    ·rfl
    ·simp [World.shape?, hc.blk]
    ·simp [World.shape?, hc'.blk]
    ·rw [hc'.size]; have := hc'.le; omega
    ·simp [World.frozen?, hc.blk]
    ·simp [World.frozen?, hc.blk]
  ·exact .inl h1
 ·exact .inl h1
theorem atCell_inv {s : St} {id off : Nat} {κ : SI → R} {D : Dn} (h : atCell s id off κ ∈ D) : ∃ e, κ e ∈ D ∧ ∀ {ρ w0 φ w p}, Gm P ρ w0 φ s w → φ[id]? = some p → w.cell? ⟨p.blk, p.sh + off, none⟩ = some (.int .i64 (e.ev ρ)) ∧ w.frozen? ⟨p.blk, p.sh + off, none⟩ = false := by
 obtain ⟨n, c, d, T, r, hid, h1⟩ := objK_inv h
 obtain ⟨hb, h2⟩ := brec_inv h1
 obtain ⟨v, hv, h3⟩ := cellK_inv h2
 obtain ⟨k, e, rfl, h4⟩ := intV_inv h3
 obtain ⟨hk, h5⟩ := brec_inv h4
 have hk := kindEq_of hk
 subst hk
 rw [natBlt, decide_eq_true_eq] at hb
 refine ⟨e, h5, fun {ρ w0 φ w p} hm hp => ?_⟩
 obtain ⟨p', arr, fz, hp', hc⟩ := hm.hp.obj _ _ hid
 rw [hp] at hp'; cases hp'
 obtain ⟨u, x, e1, e2, e3, _⟩ := hc.cell off hb
 rw [hv] at e1; cases e1
 simp only [conc, Option.some.injEq] at e2
 subst e2
 have hlt : p.sh + off < p.sz := by have := hc.le; omega
 refine ⟨by simp [World.cell?, hc.blk, e3], ?_⟩
 have := hc.fr (p.sh + off) hlt
 simp only [World.frozen?, hc.blk]
 simpa using this
theorem sumLoad_ok (hf : P.funcs[f0]? = some fn) (hname : (fn.name == "runtime.NumGoroutine") = false) (hb : fn.body.isNone = true) (hn : Extern.findNext fn = none) (he : Extern.find fn = some (Extern.Atomic.loadT (.int .i64))) : SumsOk P (sumLoad f0) := by
 intro ρ f l s κ alt D h
 unfold sumLoad at h
 rcases brec_cases h with ⟨hff, h1⟩ | ⟨_, h1⟩
 ·rw [natBeq, decide_eq_true_eq] at hff
  subst hff
  unfold atLoad at h1
  split at h1
  ·rename_i id off
   obtain ⟨e, h2, h3⟩ := atCell_inv (P := P) h1
   refine .inr ⟨_, s, h2, .refl _, fun {w0 φ w xs} hρ hx hm => ?_⟩
   obtain ⟨y, ys, e1, e2, rfl⟩ := concL_cons.1 hx
   simp only [concL, Option.some.injEq] at e2
   subst e2
   obtain ⟨p, hp, rfl⟩ := conc_ptr e1
   exact .inr ⟨_, w, run_call_load hf hname hb hn .i64 he (h3 hm hp).1, φ, List.prefix_refl _, rfl, hm⟩
  ·exact .inl h1
 ·exact .inl h1
theorem sumCas_ok (hf : P.funcs[f0]? = some fn) (hname : (fn.name == "runtime.NumGoroutine") = false) (hb : fn.body.isNone = true) (hn : Extern.findNext fn = none) (he : Extern.find fn = some (Extern.Atomic.casT (.int .i64))) : SumsOk P (sumCas f0) := by
 intro ρ f l s κ alt D h
 unfold sumCas at h
 rcases brec_cases h with ⟨hff, h1⟩ | ⟨_, h1⟩
 ·rw [natBeq, decide_eq_true_eq] at hff
  subst hff
  unfold atCas at h1
  split at h1
  ·rename_i id off a b
   obtain ⟨e, h2, h3⟩ := atCell_inv (P := P) h1
   obtain ⟨hab, h4⟩ := brec_inv h2
   have hab := SI.beq_eq _ _ hab
   subst hab
   obtain ⟨s', h5, hpc, h6⟩ := stP_sound (P := P) (ρ := ρ) h4
   refine .inr ⟨_, s', h5, by rw [hpc]; exact .refl _, fun {w0 φ w xs} hρ hx hm => ?_⟩
   obtain ⟨y, ys, e1, e2, rfl⟩ := concL_cons.1 hx
   obtain ⟨y2, ys2, e3, e4, rfl⟩ := concL_cons.1 e2
   obtain ⟨y3, ys3, e5, e6, rfl⟩ := concL_cons.1 e4
   simp only [concL, Option.some.injEq] at e6
   subst e6
   obtain ⟨p, hp, rfl⟩ := conc_ptr e1
   simp only [conc, Option.some.injEq] at e3 e5
   subst e3; subst e5
   obtain ⟨c1, c2⟩ := h3 hm hp
   obtain ⟨w', r1, r2⟩ := h6 hm hp (concL_cons.2 ⟨.int .i64 (b.ev ρ), [], rfl, rfl, rfl⟩)
   have hw : w' = w.setCell ⟨p.blk, p.sh + off, none⟩ (.int .i64 (b.ev ρ)) := by
    have : (storeCells ⟨p.blk, p.sh + off, none⟩ [.int .i64 (b.ev ρ)]).run P w = .ok () (w.setCell ⟨p.blk, p.sh + off, none⟩ (.int .i64 (b.ev ρ))) := by
     simp [storeCells, store, Sem.run, Sem.run_bind, c1, c2, Addr.add]
    rw [this] at r1
    cases r1
    rfl
   subst hw
   exact .inr ⟨_, _, run_call_cas_hit hf hname hb hn .i64 he c1 c2, φ, List.prefix_refl _, rfl, r2⟩
  ·exact .inl h1
 ·exact .inl h1
end
end Go.Proofs.YtooebogidjejoaaGreat
namespace Go.Proofs.YtooebogidjejoaaGreat
open Go Go.RowKit
noncomputable section
def eqSs (a : List SI) : List SI → Bool := List.rec (motive := fun _ => List SI → Bool) (fun b => List.rec (motive := fun _ => Bool) true (fun _ _ _ => false) b)
 (fun x _ ih b => List.rec (motive := fun _ => Bool) false (fun y b _ => SI.beq x y && ih b) b) a
def eqC (c d : Ch) : Bool := match c, d with
 | .bs a, .bs b => eqSs a b
 | .fil n v, .fil m u => SI.beq n m && SI.beq v u
 | .row a o n, .row b p m => Nat.beq a b && (SI.beq o p && SI.beq n m)
 | _, _ => false
def eqCs (a : List Ch) : List Ch → Bool := List.rec (motive := fun _ => List Ch → Bool) (fun b => List.rec (motive := fun _ => Bool) true (fun _ _ _ => false) b)
 (fun x _ ih b => List.rec (motive := fun _ => Bool) false (fun y b _ => eqC x y && ih b) b) a
def trimC (cs : List Ch) : (List Ch → R) → R := List.rec (motive := fun _ => (List Ch → R) → R) (fun κ => κ []) (fun c _ ih κ => ih fun r => lenH c fun n => Bool.rec (motive := fun _ => R) (κ (c :: r)) (κ r) (isZ n)) cs
def locV (h : Tr AObj) (x : AV) : Bool := match x with
 | .sl _ _ _ _ => true
 | _ => ropy h x
def sameR (l : List AV) (s : St) (κ : AV → St → R) (alt : R) : R := match l with
 | [x, y] => Bool.rec (motive := fun _ => R) alt (lenS s.pc x fun n => Bool.rec (motive := fun _ => R) (.fail 483) (readR s.hp s.pc x fun cs pc => readR s.hp pc y fun ds pc => trimC cs fun cs => trimC ds fun ds => mrgK pc cs fun cs => mrgK pc ds fun ds => Bool.rec (motive := fun _ => R) (.fail 484) (κ (.bool (.lit true)) ⟨s.hp, s.nx, pc⟩) (eqCs cs ds)) (ltB s.pc.rg n)) ((ropy s.hp x || ropy s.hp y) && (locV s.hp x && locV s.hp y))
 | _ => alt
def sumSame (f0 : FuncId) : Sums := fun f l s κ alt => Bool.rec (motive := fun _ => R) alt (sameR l s κ alt) (Nat.beq f f0)
end
theorem eqSs_ok {ρ : Nat → Int} : ∀ {a b : List SI}, eqSs a b = true → a.map (SI.ev ρ) = b.map (SI.ev ρ)
 | [], [], _ => rfl
 | [], _ :: _, h => by cases h
 | _ :: _, [], h => by cases h
 | x :: a, y :: b, h => by
  have h : (SI.beq x y && eqSs a b) = true := h
  rw [Bool.and_eq_true] at h
  rw [List.map_cons, List.map_cons, SI.beq_eq _ _ h.1, eqSs_ok h.2]
theorem eqC_ok {ρ : Nat → Int} {c d : Ch} (h : eqC c d = true) : c.zs ρ = d.zs ρ := by
 unfold eqC at h
 split at h
 ·simp only [Ch.zs]; exact eqSs_ok h
 ·rw [Bool.and_eq_true] at h
  simp only [Ch.zs, SI.beq_eq _ _ h.1, SI.beq_eq _ _ h.2]
 ·rw [Bool.and_eq_true, Bool.and_eq_true, natBeq, decide_eq_true_eq] at h
  obtain ⟨rfl, h1, h2⟩ := h
  simp only [Ch.zs, SI.beq_eq _ _ h1, SI.beq_eq _ _ h2]
 ·cases h
theorem eqCs_ok {ρ : Nat → Int} : ∀ {a b : List Ch}, eqCs a b = true → ropeZ ρ a = ropeZ ρ b
 | [], [], _ => rfl
 | [], _ :: _, h => by cases h
 | _ :: _, [], h => by cases h
 | x :: a, y :: b, h => by
  have h : (eqC x y && eqCs a b) = true := h
  rw [Bool.and_eq_true] at h
  rw [ropeZ_cons, ropeZ_cons, eqC_ok h.1, eqCs_ok h.2]
theorem trimC_inv {D : Dn} : ∀ {cs : List Ch} {κ : List Ch → R}, trimC cs κ ∈ D → ∃ r, κ r ∈ D ∧ ∀ ρ, ropeZ ρ r = ropeZ ρ cs
 | [], κ, h => ⟨[], h, fun _ => rfl⟩
 | c :: cs, κ, h => by
  obtain ⟨r, h1, h2⟩ := trimC_inv (cs := cs) (κ := fun r => lenH c fun n => Bool.rec (motive := fun _ => R) (κ (c :: r)) (κ r) (isZ n)) h
  obtain ⟨n, h3, h4⟩ := lenH_inv h1
  rcases brec_cases h3 with ⟨hz, h5⟩ | ⟨_, h5⟩
  ·refine ⟨r, h5, fun ρ => ?_⟩
   have hl := h4 ρ
   rw [isZ_ev hz] at hl
   have hn : c.zs ρ = [] := List.length_eq_zero_iff.1 (by omega)
   rw [ropeZ_cons, hn, h2]; rfl
  ·exact ⟨_, h5, fun ρ => by rw [ropeZ_cons, ropeZ_cons, h2]⟩
set_option maxHeartbeats 400000 in
theorem same_any (b1 o1 c1 b2 o2 c2 n : Nat) (z : Nat → Int) (hn : n < 4611686018427387904) (w : World) (h1 : ∀ i, i < n → w.cell? ⟨b1, o1 + i, none⟩ = some (.int .u8 (z i))) (h2 : ∀ i, i < n → w.cell? ⟨b2, o2 + i, none⟩ = some (.int .u8 (z i))) :
  Calls Tryz.prog 14 #[.slice (some ⟨b1, o1, none⟩) n c1, .slice (some ⟨b2, o2, none⟩) n c2] w fun e w' => e = .returned (.bool true) ∧ ∃ k, w' = w.drewN k := by
 have H1 := Lib.hid h1
 have H2 := Lib.hid h2
 clear h1 h2
 go_enter Tryz.func14, Tryz.ntmps14
 have hne : ((n : Int) != (n : Int)) = false := by simp
 go_wp2
 go_loopw [5] (fun i wr => ∃ k : Nat, k ≤ n ∧ i = .int .i64 k ∧ ∃ d, wr = w.drewN d) (fun i _ => n - (intOf i).toNat)
 case atStart => exact ⟨0, Nat.zero_le _, rfl, 0, rfl⟩
 case round =>
  obtain ⟨k, hk, rfl, d, rfl⟩ := hrel
  by_cases hlt : k < n
  ·have g1 := H1.out k hlt
   have g2 := H2.out k hlt
   have hnz : (z k != z k) = false := by simp
   go_wp2
   go_quiet (fail)
   go_wp2
   go_roundw
   case rel => exact ⟨k + 1, by omega, by go_num, _, rfl⟩
   case measure => simp [intOf]; omega
  ·go_wp2
   go_ret
   exact ⟨rfl, _, rfl⟩
theorem sumSame_ok : SumsOk Tryz.prog (sumSame 14) := by
 intro ρ f l s κ alt D h
 unfold sumSame at h
 rcases brec_cases h with ⟨hf, h1⟩ | ⟨_, h1⟩
 ·rw [natBeq] at hf
  have hf := of_decide_eq_true hf
  subst hf
  unfold sameR at h1
  split at h1
  ·rename_i x y
   rcases brec_cases h1 with ⟨hro, h2⟩ | ⟨_, h2⟩
   ·rw [Bool.and_eq_true, Bool.and_eq_true] at hro
    obtain ⟨_, hx1, hy1⟩ := hro
    obtain ⟨n, h2, hn⟩ := lenS_inv h2
    obtain ⟨hlt, h2⟩ := brec_inv h2
    obtain ⟨cs, pc1, h3, hx, h4⟩ := readR_at' (P := Tryz.prog) (ρ := ρ) hx1 h2
    obtain ⟨ds, pc2, h5, hy, h6⟩ := readR_at' (P := Tryz.prog) (ρ := ρ) hy1 h3
    obtain ⟨cs', h7, e7⟩ := trimC_inv h5
    obtain ⟨ds', h8, e8⟩ := trimC_inv h7
    obtain ⟨cs2, h8, e7'⟩ := mrgK_inv h8
    obtain ⟨ds2, h8, e8'⟩ := mrgK_inv h8
    obtain ⟨he, h9⟩ := brec_inv h8
    refine .inr ⟨_, _, h9, hx.trans hy, fun {w0 φ w xs} hρ hxs hm => ?_⟩
    have hρ1 : Holds ρ pc1 := hρ.of_ext hy
    obtain ⟨y, ys, e1, e2, rfl⟩ := concL_cons.1 hxs
    obtain ⟨y2, ys2, e3, e4, rfl⟩ := concL_cons.1 e2
    simp only [concL, Option.some.injEq] at e4
    subst e4
    have hz : ropeZ ρ cs = ropeZ ρ ds := by rw [← e7, ← e8, ← e7' ρ hρ.rg, ← e8' ρ hρ.rg]; exact eqCs_ok he
    obtain ⟨b1, o1, m1, c1, rfl, hl1, hb1⟩ := h4 hρ1 hm e1
    obtain ⟨b2, o2, m2, c2, rfl, hl2, hb2⟩ := h6 hρ hm e3
    rw [← hz] at hl2 hb2
    have hrg : RgOk ρ s.pc.rg := by rw [← hx.rg, ← hy.rg]; exact hρ.rg
    have hsmall : m1 < 4611686018427387904 := by
     obtain ⟨l1, l2⟩ := ltB_ok hlt (ρ := ρ) hrg
     obtain ⟨_, _, _, _, e3, e4⟩ := hn hrg e1
     cases e3
     omega
    subst hl1
    subst hl2
    refine CallsOr.of (enter_of Tryz.func14 (by kernel_rfl) (by kernel_rfl) _ w) ?_
    refine (same_any b1 o1 c1 b2 o2 c2 _ (valZ (ropeZ ρ cs)) hsmall w (fun i hi => ?_) (fun i hi => ?_)).mono fun e' w' ⟨he, d, hk⟩ => ⟨φ, _, he, List.prefix_refl _, rfl, (hm.pc pc2).keeps (by rw [hk]; exact (Kp.refl _ _).drewN d)⟩
    ·rw [hb1 i _ (List.getElem?_eq_getElem hi)]
     unfold valZ
     rw [List.getElem?_eq_getElem hi]
     rfl
    ·rw [hb2 i _ (List.getElem?_eq_getElem hi)]
     unfold valZ
     rw [List.getElem?_eq_getElem hi]
     rfl
   ·exact .inl h2
  ·exact .inl h1
 ·exact .inl h1
noncomputable def sumsP : Sums := sumOr sumPartR (sumOr (sumSame 14) sumsB)
theorem sumsP_ok : SumsOk Tryz.prog sumsP := sumOr_ok sumPartR_ok (sumOr_ok sumSame_ok sumsB_ok)
end Go.Proofs.YtooebogidjejoaaGreat
namespace Go.Proofs.YtooebogidjejoaaGreat
open Go Go.RowKit Go.ChangeShapes Go.WideShapes
def rhoB (n b o c : Nat) (zs : List Int) : Nat → Int := fun i => if i = 32 then n else if i = 628 then b else if i = 629 then o else if i = 630 then c else if i = 631 then 1 else if i < 1000 then 0 else zs.getD ((i - 1032) / 64) 0
theorem rhoB_32 (n b o c : Nat) (zs : List Int) : rhoB n b o c zs 32 = n := rfl
theorem foOk_rhoB {w : World} {n b o c : Nat} {zs : List Int} (hn : n ≤ c) (hz : zs.length = c) (hc : ∀ i, i < zs.length → w.cell? ⟨b, o + i, none⟩ = some (.int .u8 (zs.getD i 0))) (hw : ∀ z ∈ zs, 0 ≤ z ∧ z ≤ 255) : FoOk (rhoB n b o c zs) w := by
 intro a h1 h2 h3
 have ha : a = 32 := by
  by_cases ha : a = 32
  ·exact ha
  ·exfalso
   have h4 : rhoB n b o c zs (fMark a) = 0 := by
    unfold rhoB fMark
    rw [if_neg (by omega), if_neg (by omega), if_neg (by omega), if_neg (by omega), if_neg (by omega), if_pos (by omega)]
   rw [h4] at h3
   omega
 subst ha
 have e1 : rhoB n b o c zs 32 = n := rfl
 have e2 : rhoB n b o c zs (fCap 32) = c := rfl
 have e3 : rhoB n b o c zs (fBlk 32) = b := rfl
 have e4 : rhoB n b o c zs (fOff 32) = o := rfl
 rw [e1, e2, e3, e4]
 refine ⟨Int.natCast_nonneg _, by omega, fun i hi => ?_⟩
 have hi : i < zs.length := by omega
 have h5 := hc i hi
 have e5 : rowB (rhoB n b o c zs) 32 i = zs.getD i 0 := by
  have e6 : rhoB n b o c zs (rowIx 32 i) = zs.getD i 0 := by
   unfold rhoB rowIx
   rw [if_neg (by omega), if_neg (by omega), if_neg (by omega), if_neg (by omega), if_neg (by omega), if_neg (by omega)]
   congr 1
   omega
  unfold rowB
  rw [e6]
  have hg : zs.getD i 0 = zs[i] := by simp [List.getD_eq_getElem?_getD, hi]
  have := hw zs[i] (List.getElem_mem hi)
  rw [hg]
  exact wrap_in (k := .u8) ⟨by show (0 : Int) ≤ _; omega, by show _ ≤ (255 : Int); omega⟩
 rw [e5]
 show ∃ arr T fz, w.heap[b]? = some (.cells arr T fz) ∧ arr[o + i]? = some (.int .u8 (zs.getD i 0))
 unfold World.cell? at h5
 split at h5
 ·rename_i arr T fz hb
  exact ⟨arr, T, fz, hb, h5⟩
 ·cases h5
theorem conc_rhoB {φ : List Pl} {n b o c : Nat} {zs : List Int} (hn : n ≤ c) : conc φ (rhoB n b o c zs) (.fsl 32 zeroS zeroS (.var 32)) = some (.slice (some ⟨b, o, none⟩) n c) := by
 have e1 : rhoB n b o c zs 32 = n := rfl
 have e2 : rhoB n b o c zs (fCap 32) = c := rfl
 have e3 : rhoB n b o c zs (fBlk 32) = b := rfl
 have e4 : rhoB n b o c zs (fOff 32) = o := rfl
 rw [fsl_mk _ _ _ rfl (by rw [e1]; omega) (by rw [e1, e2]; omega)]
 simp only [SI.ev, zeroS, e1, e2, e3, e4]
 simp
def rgRow (lo hi : Int) : List (Int × Int) := [(0, 0), (0, 0), (0, 0), (0, 0), (0, 0), (0, 0), (0, 0), (0, 0), (0, 0), (0, 0), (0, 0), (0, 0), (0, 0), (0, 0), (0, 0), (0, 0), (0, 0), (0, 0), (0, 0), (0, 0), (0, 0), (0, 0), (0, 0), (0, 0), (0, 0), (0, 0), (0, 0), (0, 0), (0, 0), (0, 0), (0, 0), (0, 0), (lo, hi)]
theorem rgOk_rhoB {n b o c : Nat} {zs : List Int} {lo hi : Int} (h : lo ≤ n ∧ (n : Int) ≤ hi) : RgOk (rhoB n b o c zs) (rgRow lo hi) := by
 unfold rgRow
 repeat (refine rgOk_cons ⟨Int.le_refl _, Int.le_refl _⟩ ?_)
 exact rgOk_cons h rgOk_nil
theorem run_boolF {P : Program} {pl : Plans} {sm : Sums} (hm : P.follows .mixedOrders = true) (hP : PlansOk P pl) (hS : SumsOk P sm) {n : Nat} {f : FuncId} {args : List AV} {smp : List (List Int)} {rg : List (Int × Int)} {b : Bool} {pcs : List (SB × Bool)} {ds : List (List (SB × Bool))} {r : R}
  (h : evCall P pl sm n f args (s0 pcs smp rg) finK = r) (hr : okTree r b pcs ds = true) (ρ : Nat → Int) (hp : ∀ x ∈ pcs, x.1.ev ρ = x.2) (hrg : RgOk ρ rg) (hd : ∀ d ∈ ds, ¬ conjB ρ d) {xs : List Value} (hx : concL [] ρ args = some xs) (w : World) (hfo : FoOk ρ w) :
  Calls P f xs.toArray w fun e w' => e = .returned (.bool b) ∧ Kp [] w w' := by
 obtain ⟨V, S, h1, h2, h3⟩ := okT_ends hr hp fun d hx hy => hd d hx (conjB_of hy)
 rw [← h] at h1
 refine (run_sound hm hP hS h1 ρ hx h3 hrg w hfo).mono fun e w' ⟨φ, x, he, hc, hk⟩ => ⟨?_, hk⟩
 unfold isB at h2
 split at h2
 ·simp only [conc, SB.ev, Option.some.injEq] at hc
  simp only [beq_iff_eq] at h2
  rw [he, ← hc, h2]
 ·cases h2
theorem open_addr {w : World} {a : Addr} {i : Nat} {v : Value} (h : w.cell? (a.add i) = some v) (hs : i = 0 ∨ a.spot = none) : a.spot = none := by
 rcases hs with rfl | hs
 ·unfold Addr.add at h
  simp only [if_true] at h
  unfold World.cell? at h
  split at h
  ·split at h
   ·cases h
   ·rename_i hn; simpa using hn
  ·cases h
 ·exact hs
def RowIn (w : World) (v : Value) : Prop := v = .slice none 0 0 ∨ (∃ a, v = .slice (some a) 0 0) ∨ ∃ (b o n c : Nat) (zs : List Int), v = .slice (some ⟨b, o, none⟩) n c ∧ n ≤ c ∧ c ≤ 9223372036854775807 ∧ zs.length = c ∧ (∀ i, i < zs.length → w.cell? ⟨b, o + i, none⟩ = some (.int .u8 (zs.getD i 0))) ∧ ∀ z ∈ zs, 0 ≤ z ∧ z ≤ 255
theorem open_row {H : Type} {enc : TypeId × Value → H} {w : World} {fuel : Nat} {v : Value} {x : DataW H × List MemPlace} {t e : TypeId} (ht : Tryz.prog.underlying t = some (.slice e)) (he : Tryz.prog.underlying e = some (.int .u8)) (hcl : Tryz.prog.cellsOf e = 1) (h : DataW.trod enc Tryz.prog w 0 (fun _ => true) true fuel t [v] = some x) : RowIn w v := by
 rcases open_ints ht he hcl h with ⟨h1, rfl⟩ | ⟨a, len, cap, zs, h1, _, hl, hm, hz, rfl, hcell, hwz⟩
 ·exact .inl (by cases h1; rfl)
 ·cases h1
  simp only [if_true] at hz
  by_cases h0 : cap = 0
  ·obtain rfl : len = 0 := by omega
   subst h0
   exact .inr (.inl ⟨a, rfl⟩)
  ·have hs := open_addr (hcell 0 (by omega)) (.inl rfl)
   obtain ⟨b, o, sp⟩ := a
   simp only [] at hs
   subst hs
   unfold maxLen at hm
   refine .inr (.inr ⟨b, o, len, cap, zs, rfl, hl, by omega, hz, fun i hi => ?_, fun z hz => ?_⟩)
   ·have := hcell i hi
    rw [add_lit] at this
    exact this
   ·simpa [Lit.wf, IntKind.min, IntKind.max, IntKind.signed, IntKind.bits] using hwz z hz
end Go.Proofs.YtooebogidjejoaaGreat
namespace Go.Proofs.YtooebogidjejoaaGreat
open Go Go.RowKit Go.ChangeShapes Go.WideShapes
def rhoN (m : Int) (n b o c : Nat) (zs : List Int) : Nat → Int := fun i => if i = 0 then m else rhoB n b o c zs i
theorem rhoN_32 (m : Int) (n b o c : Nat) (zs : List Int) : rhoN m n b o c zs 32 = n := rfl
theorem rhoN_0 (m : Int) (n b o c : Nat) (zs : List Int) : rhoN m n b o c zs 0 = m := rfl
theorem rhoN_ge {m : Int} {n b o c : Nat} {zs : List Int} {i : Nat} (h : 32 ≤ i) : rhoN m n b o c zs i = rhoB n b o c zs i := if_neg (by omega)
theorem foOk_rhoN {w : World} {m : Int} {n b o c : Nat} {zs : List Int} (hn : n ≤ c) (hz : zs.length = c) (hc : ∀ i, i < zs.length → w.cell? ⟨b, o + i, none⟩ = some (.int .u8 (zs.getD i 0))) (hw : ∀ z ∈ zs, 0 ≤ z ∧ z ≤ 255) : FoOk (rhoN m n b o c zs) w := by
 intro a h1 h2 h3
 have := foOk_rhoB hn hz hc hw a h1 h2 (by rw [← h3]; exact (rhoN_ge (by unfold fMark; omega)).symm)
 rw [rhoN_ge h1, rhoN_ge (by unfold fCap; omega), rhoN_ge (by unfold fBlk; omega), rhoN_ge (by unfold fOff; omega)]
 refine ⟨this.1, this.2.1, fun i hi => ?_⟩
 have e : rowB (rhoN m n b o c zs) a i = rowB (rhoB n b o c zs) a i := by
  unfold rowB
  rw [rhoN_ge (by unfold rowIx; omega)]
 rw [e]
 exact this.2.2 i hi
theorem conc_rhoN {φ : List Pl} {m : Int} {n b o c : Nat} {zs : List Int} (hn : n ≤ c) : conc φ (rhoN m n b o c zs) (.fsl 32 zeroS zeroS (.var 32)) = some (.slice (some ⟨b, o, none⟩) n c) := conc_rhoB (φ := φ) (zs := zs) hn
theorem rgOk_rhoN {m : Int} {n b o c : Nat} {zs : List Int} {a1 a2 lo hi : Int} (hm : a1 ≤ m ∧ m ≤ a2) (h : lo ≤ n ∧ (n : Int) ≤ hi) : RgOk (rhoN m n b o c zs) ((a1, a2) :: (rgRow lo hi).tail) := by
 refine rgOk_cons hm ?_
 show RgOk (fun i => rhoB n b o c zs (i + 1)) _
 unfold rgRow
 repeat (refine rgOk_cons ⟨Int.le_refl _, Int.le_refl _⟩ ?_)
 exact rgOk_cons h rgOk_nil
theorem run_bool2F {P : Program} {pl : Plans} {sm : Sums} (hm : P.follows .mixedOrders = true) (hP : PlansOk P pl) (hS : SumsOk P sm) {n : Nat} {f : FuncId} {args : List AV} {smp : List (List Int)} {rg : List (Int × Int)} {b : Bool} {v : Nat} {lo : Int} {m : Nat}
  (hr : okT2 v lo m (isB b) (evCall P pl sm n f args (s0 [] smp rg) finK) [] = true) (ρ : Nat → Int) (hrg : RgOk ρ rg) (hv : m = 0 ∨ lo ≤ ρ v ∧ ρ v < lo + m) {xs : List Value} (hx : concL [] ρ args = some xs) (w : World) (hfo : FoOk ρ w) :
  Calls P f xs.toArray w fun e w' => e = .returned (.bool b) ∧ Kp [] w w' := by
 obtain ⟨V, S, h1, h2, h3⟩ := okT2_inv hv _ hr (fun x hx => by cases hx)
 refine (run_sound hm hP hS h1 ρ hx h3 hrg w hfo).mono fun e w' ⟨φ, x, he, hc, hk⟩ => ⟨?_, hk⟩
 unfold isB at h2
 split at h2
 ·simp only [conc, SB.ev, Option.some.injEq] at hc
  simp only [beq_iff_eq] at h2
  rw [he, ← hc, h2]
 ·cases h2
end Go.Proofs.YtooebogidjejoaaGreat
namespace Go.Proofs.YtooebogidjejoaaGreat
open Go Go.RowKit Go.ChangeShapes Go.WideShapes
structure RowD where
 n : Nat
 b : Nat
 o : Nat
 c : Nat
 zs : List Int
def RowD.v (r : RowD) : Value := .slice (some ⟨r.b, r.o, none⟩) r.n r.c
structure RowD.Ok (w : World) (r : RowD) : Prop where
 le : r.n ≤ r.c
 mx : r.c ≤ 9223372036854775807
 len : r.zs.length = r.c
 cell : ∀ i, i < r.zs.length → w.cell? ⟨r.b, r.o + i, none⟩ = some (.int .u8 (r.zs.getD i 0))
 byte : ∀ z ∈ r.zs, 0 ≤ z ∧ z ≤ 255
def RowD.at (r : RowD) (k : Nat) : Int := if k = 0 then r.b else if k = 1 then r.o else if k = 2 then r.c else 1
def rowG (rs : List RowD) (k : Nat) (f : RowD → Int) : Int := match rs[k]? with
 | some r => f r
 | none => 0
def adsG (ads : List (Option Addr × Nat)) (k j : Nat) : Int := match ads[k]? with
 | some x => match x.1 with
  | none => if j = 3 then x.2 else 0
  | some a => if j = 0 then a.block else if j = 1 then a.off else if j = 2 then (match a.spot with | none => 1 | some n => n + 2) else x.2
 | none => 0
def rhoG (ms : List Int) (rs : List RowD) (ads : List (Option Addr × Nat) := []) : Nat → Int := fun i =>
 if i < 32 then ms.getD i 0 else if i < 64 then rowG rs (i - 32) (fun r => r.n) else if i < 300 then 0 else if i < 428 then adsG ads ((i - 300) / 4) ((i - 300) % 4) else if i < 628 then 0 else if i < 756 then rowG rs ((i - 628) / 4) (fun r => r.at ((i - 628) % 4)) else if i < 1000 then 0 else rowG rs ((i - 1000) % 64 - 32) (fun r => r.zs.getD ((i - 1000) / 64) 0)
theorem rhoG_len (ms : List Int) (rs : List RowD) (ads : List (Option Addr × Nat)) {a : Nat} (h1 : 32 ≤ a) (h2 : a < 64) : rhoG ms rs ads a = rowG rs (a - 32) (fun r => r.n) := by
 unfold rhoG
 rw [if_neg (by omega), if_pos h2]
theorem rhoG_at (ms : List Int) (rs : List RowD) (ads : List (Option Addr × Nat)) {a k : Nat} (h1 : 32 ≤ a) (h2 : a < 64) (hk : k < 4) : rhoG ms rs ads (500 + k + 4 * a) = rowG rs (a - 32) (fun r => r.at k) := by
 unfold rhoG
 rw [if_neg (by omega), if_neg (by omega), if_neg (by omega), if_neg (by omega), if_neg (by omega), if_pos (by omega), show (500 + k + 4 * a - 628) / 4 = a - 32 by omega, show (500 + k + 4 * a - 628) % 4 = k by omega]
theorem rhoG_row (ms : List Int) (rs : List RowD) (ads : List (Option Addr × Nat)) {a i : Nat} (h1 : 32 ≤ a) (h2 : a < 64) : rhoG ms rs ads (rowIx a i) = rowG rs (a - 32) (fun r => r.zs.getD i 0) := by
 unfold rhoG rowIx
 rw [if_neg (by omega), if_neg (by omega), if_neg (by omega), if_neg (by omega), if_neg (by omega), if_neg (by omega), if_neg (by omega), show (1000 + 64 * i + a - 1000) % 64 = a by omega, show (1000 + 64 * i + a - 1000) / 64 = i by omega]
theorem rowG_some {rs : List RowD} {k : Nat} {f : RowD → Int} {r : RowD} (h : rs[k]? = some r) : rowG rs k f = f r := by
 unfold rowG
 rw [h]
theorem foOk_rhoG {w : World} {ms : List Int} {rs : List RowD} {ads : List (Option Addr × Nat)} (h : ∀ r ∈ rs, RowD.Ok w r) : FoOk (rhoG ms rs ads) w := by
 intro a h1 h2 h3
 have e3 : rhoG ms rs ads (fMark a) = rowG rs (a - 32) (fun r => r.at 3) := rhoG_at ms rs ads h1 h2 (k := 3) (by omega)
 have e2 : rhoG ms rs ads (fCap a) = rowG rs (a - 32) (fun r => r.at 2) := rhoG_at ms rs ads h1 h2 (k := 2) (by omega)
 have e1 : rhoG ms rs ads (fOff a) = rowG rs (a - 32) (fun r => r.at 1) := rhoG_at ms rs ads h1 h2 (k := 1) (by omega)
 have e0 : rhoG ms rs ads (fBlk a) = rowG rs (a - 32) (fun r => r.at 0) := rhoG_at ms rs ads h1 h2 (k := 0) (by omega)
 rw [e3] at h3
 cases hr : rs[a - 32]? with
 | none =>
  unfold rowG at h3
  rw [hr] at h3
  cases h3
 | some r =>
  have ok := h r (List.mem_of_getElem? hr)
  rw [e0, e1, e2, rhoG_len ms rs ads h1 h2, rowG_some hr, rowG_some hr, rowG_some hr, rowG_some hr]
  show (0 : Int) ≤ (r.n : Int) ∧ ((r.n : Int)).toNat ≤ ((r.c : Int)).toNat ∧ ∀ i, i < ((r.n : Int)).toNat → ∃ arr T fz, w.heap[((r.b : Int)).toNat]? = some (.cells arr T fz) ∧ arr[((r.o : Int)).toNat + i]? = some (.int .u8 (rowB (rhoG ms rs ads) a i))
  have hle := ok.le
  refine ⟨by omega, by omega, fun i hi => ?_⟩
  have hi : i < r.zs.length := by have := ok.len; omega
  have h5 := ok.cell i hi
  have e5 : rowB (rhoG ms rs ads) a i = r.zs.getD i 0 := by
   unfold rowB
   rw [rhoG_row ms rs ads h1 h2, rowG_some hr]
   have hg : r.zs.getD i 0 = r.zs[i] := by simp [List.getD_eq_getElem?_getD, hi]
   have := ok.byte r.zs[i] (List.getElem_mem hi)
   rw [hg]
   exact wrap_in (k := .u8) ⟨by show (0 : Int) ≤ _; omega, by show _ ≤ (255 : Int); omega⟩
  rw [e5]
  show ∃ arr T fz, w.heap[r.b]? = some (.cells arr T fz) ∧ arr[r.o + i]? = some (.int .u8 (r.zs.getD i 0))
  unfold World.cell? at h5
  split at h5
  ·rename_i arr T fz hb
   exact ⟨arr, T, fz, hb, h5⟩
  ·cases h5
theorem conc_rhoG {φ : List Pl} {ms : List Int} {rs : List RowD} {ads : List (Option Addr × Nat)} {a : Nat} {r : RowD} (h1 : 32 ≤ a) (h2 : a < 64) (hr : rs[a - 32]? = some r) (hn : r.n ≤ r.c) : conc φ (rhoG ms rs ads) (.fsl a zeroS zeroS (.var a)) = some r.v := by
 have e3 : rhoG ms rs ads (fMark a) = r.at 3 := (rhoG_at ms rs ads h1 h2 (k := 3) (by omega)).trans (rowG_some hr)
 have e2 : rhoG ms rs ads (fCap a) = r.at 2 := (rhoG_at ms rs ads h1 h2 (k := 2) (by omega)).trans (rowG_some hr)
 have e1 : rhoG ms rs ads (fOff a) = r.at 1 := (rhoG_at ms rs ads h1 h2 (k := 1) (by omega)).trans (rowG_some hr)
 have e0 : rhoG ms rs ads (fBlk a) = r.at 0 := (rhoG_at ms rs ads h1 h2 (k := 0) (by omega)).trans (rowG_some hr)
 have el : rhoG ms rs ads a = r.n := (rhoG_len ms rs ads h1 h2).trans (rowG_some hr)
 rw [fsl_mk _ _ _ e3 (by rw [el]; omega) (by rw [el, e2]; show ((r.n : Int)).toNat ≤ ((r.c : Int)).toNat; omega)]
 simp only [SI.ev, zeroS, el, e2, e1, e0]
 show some (Value.slice (some ⟨((r.b : Int)).toNat, ((r.o : Int)).toNat + (if ((r.c : Int)).toNat ≤ ((0 : Int)).toNat then ((0 : Int)).toNat else ((0 : Int)).toNat), none⟩) ((r.n : Int)).toNat (((r.c : Int)).toNat - ((0 : Int)).toNat)) = some (Value.slice (some ⟨r.b, r.o, none⟩) r.n r.c)
 simp
theorem conc_rhoL {φ : List Pl} {ms : List Int} {rs : List RowD} {ads : List (Option Addr × Nat)} {a k : Nat} {r : RowD} (h1 : 32 ≤ a) (h2 : a < 64) (hr : rs[a - 32]? = some r) (hn : r.n ≤ r.c) (hk : r.n = k) : conc φ (rhoG ms rs ads) (.fsl a zeroS zeroS (natS k)) = some r.v := by
 rw [← conc_rhoG (φ := φ) (ms := ms) (ads := ads) h1 h2 hr hn]
 have el : rhoG ms rs ads a = r.n := (rhoG_len ms rs ads h1 h2).trans (rowG_some hr)
 simp only [conc, natS, SI.ev, el, hk]
 rfl
theorem adrL_rhoG {ms : List Int} {rs : List RowD} {ads : List (Option Addr × Nat)} {k : Nat} {q : Option Addr} {c : Nat} (hk : k < 32) (h : ads[k]? = some (q, c)) : adrL (rhoG ms rs ads) (300 + 4 * k) = q ∧ rhoG ms rs ads (303 + 4 * k) = c := by
 have e : ∀ j, j < 4 → rhoG ms rs ads (300 + 4 * k + j) = adsG ads k j := by
  intro j hj
  unfold rhoG
  rw [if_neg (by omega), if_neg (by omega), if_neg (by omega), if_pos (by omega), show (300 + 4 * k + j - 300) / 4 = k by omega, show (300 + 4 * k + j - 300) % 4 = j by omega]
 have e0 := e 0 (by omega)
 have e1 := e 1 (by omega)
 have e2 := e 2 (by omega)
 have e3 := e 3 (by omega)
 rw [Nat.add_zero] at e0
 unfold adsG at e0 e1 e2 e3
 rw [h] at e0 e1 e2 e3
 cases q with
 | none => exact ⟨by unfold adrL; rw [e2]; rfl, by rw [show 303 + 4 * k = 300 + 4 * k + 3 by omega, e3]; rfl⟩
 | some a =>
  refine ⟨?_, by rw [show 303 + 4 * k = 300 + 4 * k + 3 by omega, e3]; rfl⟩
  obtain ⟨b, o, sp⟩ := a
  unfold adrL
  rw [e0, e1, e2]
  cases sp with
  | none => rfl
  | some n =>
   simp only [show ¬ (2 : Nat) = 0 by omega, show ¬ (2 : Nat) = 1 by omega, if_false, if_true]
   have h1 : ¬ ((n : Int) + 2 = 0) := by omega
   have h2 : ¬ ((n : Int) + 2 = 1) := by omega
   rw [if_neg h1, if_neg h2]
   simp
theorem conc_osl {φ : List Pl} {ms : List Int} {rs : List RowD} {ads : List (Option Addr × Nat)} {k i : Nat} {q : Option Addr} {n c : Nat} (hk : k < 32) (h : ads[k]? = some (q, c)) (hi : rhoG ms rs ads i = n) : conc φ (rhoG ms rs ads) (.osl (300 + 4 * k) i (303 + 4 * k)) = some (.slice q n c) := by
 obtain ⟨h1, h2⟩ := adrL_rhoG (ms := ms) (rs := rs) hk h
 simp only [conc, h1, h2, hi]
 rfl
theorem run_bool2P {P : Program} {pl : Plans} {sm : Sums} (hm : P.follows .mixedOrders = true) (hP : PlansOk P pl) (hS : SumsOk P sm) {n : Nat} {f : FuncId} {args : List AV} {smp : List (List Int)} {rg : List (Int × Int)} {b : Bool} {v : Nat} {lo : Int} {m : Nat} {pcs : List (SB × Bool)}
  (hr : okT2 v lo m (isB b) (evCall P pl sm n f args (s0 pcs smp rg) finK) pcs = true) (ρ : Nat → Int) (hp : ∀ x ∈ pcs, x.1.ev ρ = x.2) (hrg : RgOk ρ rg) (hv : m = 0 ∨ lo ≤ ρ v ∧ ρ v < lo + m) {xs : List Value} (hx : concL [] ρ args = some xs) (w : World) (hfo : FoOk ρ w) :
  Calls P f xs.toArray w fun e w' => e = .returned (.bool b) ∧ Kp [] w w' := by
 obtain ⟨V, S, h1, h2, h3⟩ := okT2_inv hv _ hr hp
 refine (run_sound hm hP hS h1 ρ hx h3 hrg w hfo).mono fun e w' ⟨φ, x, he, hc, hk⟩ => ⟨?_, hk⟩
 unfold isB at h2
 split at h2
 ·simp only [conc, SB.ev, Option.some.injEq] at hc
  simp only [beq_iff_eq] at h2
  rw [he, ← hc, h2]
 ·cases h2
theorem concL_mk {φ : List Pl} {ρ : Nat → Int} {v : AV} {l : List AV} {x : Value} {xs : List Value} (h : conc φ ρ v = some x) (t : concL φ ρ l = some xs) : concL φ ρ (v :: l) = some (x :: xs) := by
 simp only [concL, h, t, Option.bind_some, Option.map_some]
theorem conc_aggL {φ : List Pl} {ρ : Nat → Int} {l : List AV} {xs : List Value} (h : concL φ ρ l = some xs) : conc φ ρ (.agg l) = some (.agg xs.toArray) := by
 simp only [conc, h, Option.map_some]
theorem mapM_mem {α β : Type} {f : α → Option β} : ∀ {l : List α} {ys : List β}, l.mapM f = some ys → ∀ a ∈ l, ∃ b, f a = some b
 | [], _, _, a, ha => by cases ha
 | x :: l, ys, h, a, ha => by
  rw [List.mapM_cons] at h
  cases hx : f x with
  | none => rw [hx] at h; cases h
  | some b =>
   rw [hx] at h
   cases hl : l.mapM f with
   | none => rw [hl] at h; cases h
   | some bs =>
    rcases List.mem_cons.1 ha with rfl | ha
    ·exact ⟨b, hx⟩
    ·exact mapM_mem hl a ha
theorem trod_field {H : Type} {enc : TypeId × Value → H} {P : Program} {w : World} {fuel : Nat} {t : TypeId} {cs : List Value} {x : DataW H × List MemPlace} {fs : Array Field} (ht : P.underlying t = some (.struct fs)) (h : DataW.trod enc P w 0 (fun _ => true) true fuel t cs = some x) {f : Field} (hf : f ∈ fs.toList) : ∃ fuel' y, DataW.trod enc P w 0 (fun _ => true) true fuel' f.type ((cs.drop f.offset).take (P.cellsOf f.type)) = some y := by
 cases fuel with
 | zero => simp [DataW.trod] at h
 | succ fuel =>
  have h2 : (if cs.length = P.cellsOf t then (fs.toList.mapM fun f => DataW.trod enc P w 0 (fun _ => true) true fuel f.type ((cs.drop f.offset).take (P.cellsOf f.type))).map fun xs => (.agg (xs.map (·.1)), xs.flatMap (·.2)) else none) = some x := by
   rw [← h]
   simp only [DataW.trod, ht]
  split at h2
  ·cases hm : (fs.toList.mapM fun f => DataW.trod enc P w 0 (fun _ => true) true fuel f.type ((cs.drop f.offset).take (P.cellsOf f.type))) with
   | none => rw [hm] at h2; cases h2
   | some ys =>
    obtain ⟨y, hy⟩ := mapM_mem hm f hf
    exact ⟨fuel, y, hy⟩
  ·cases h2
theorem trod_field_at {H : Type} {enc : TypeId × Value → H} {P : Program} {w : World} {fuel : Nat} {t : TypeId} {cs : List Value} {x : DataW H × List MemPlace} {fs : Array Field} (ht : P.underlying t = some (.struct fs)) (h : DataW.trod enc P w 0 (fun _ => true) true fuel t cs = some x) {j : Nat} {f : Field} (hf : fs.toList[j]? = some f) : ∃ fuel' y, DataW.trod enc P w 0 (fun _ => true) true fuel' f.type ((cs.drop f.offset).take (P.cellsOf f.type)) = some y := trod_field ht h (List.mem_of_getElem? hf)
theorem RowIn.cases {w : World} {v : Value} (h : RowIn w v) : (∃ p c, v = .slice p 0 c) ∨ ∃ r : RowD, v = r.v ∧ r.Ok w ∧ 1 ≤ r.n := by
 rcases h with rfl | ⟨a, rfl⟩ | ⟨b, o, n, c, zs, rfl, hn, hm, hz, hc, hw⟩
 ·exact .inl ⟨none, 0, rfl⟩
 ·exact .inl ⟨some a, 0, rfl⟩
 ·by_cases h0 : n = 0
  ·subst h0
   exact .inl ⟨_, _, rfl⟩
  ·exact .inr ⟨⟨n, b, o, c, zs⟩, rfl, ⟨hn, hm, hz, hc, hw⟩, by show 1 ≤ n; omega⟩
end Go.Proofs.YtooebogidjejoaaGreat
namespace Go.Proofs.YtooebogidjejoaaGreat
open Go
noncomputable section
def npA (n p : Nat) (m : Int) : SI := .bin .add .i64 (.bin .add .i64 (.var n) (.var p)) (.lit m)
def nA (n : Nat) (m : Int) : SI := .bin .add .i64 (.var n) (.lit m)
def padP (n p : Nat) (c m0 m54 m40 m20 : Int) (x0 : SI) : List (SB × Bool) := [(.cmp .eql (maxE (.var n) c) (.var p), true), (.cmp .lss (npA n p m0) x0, false), (.cmp .lss (.lit (.ofNat 1514)) (npA n p m54), false), (.cmp .lss (npA n p m40) (nA n m40), false), (.cmp .lss (npA n p m20) (nA n m20), false)]
def padV (k : Int) (n : Nat) : Int := if k + 6 - (n : Int) > 0 then k + 6 - (n : Int) else 0
end
theorem padV_rg {k : Int} {n : Nat} (h : k + 1 ≤ (n : Int)) : 0 ≤ padV k n ∧ padV k n ≤ 5 := by
 unfold padV
 split <;> omega
theorem npA_ev {ρ : Nat → Int} {n p : Nat} {m : Int} (h1 : -1000000 ≤ ρ n ∧ ρ n ≤ 1000000) (h2 : 0 ≤ ρ p ∧ ρ p ≤ 5) (h3 : -1000000 ≤ m ∧ m ≤ 1000000) : (npA n p m).ev ρ = ρ n + ρ p + m := by
 show IntKind.i64.wrap (IntKind.i64.wrap (ρ n + ρ p) + m) = _
 rw [wrap_i64', wrap_i64']
 omega
theorem nA_ev {ρ : Nat → Int} {n : Nat} {m : Int} (h1 : -1000000 ≤ ρ n ∧ ρ n ≤ 1000000) (h3 : -1000000 ≤ m ∧ m ≤ 1000000) : (nA n m).ev ρ = ρ n + m := by
 show IntKind.i64.wrap (ρ n + m) = _
 rw [wrap_i64']
 omega
theorem padP_ok {ρ : Nat → Int} (k : Int) (hk : 0 ≤ k ∧ k ≤ 100000) {n p l : Nat} (hl : ρ n = (l : Int)) (h1 : k + 1 ≤ (l : Int) ∧ (l : Int) ≤ k + 1460) (h2 : ρ p = padV k l) {c m0 m54 m40 m20 : Int} {x0 : SI}
  (e1 : c = k + 6) (e2 : m0 = - k) (e3 : m54 = 54 - k) (e4 : m40 = 40 - k) (e5 : m20 = 20 - k) (hx : (x0 = .var n ∧ k = 0) ∨ x0 = nA n m0) : ∀ x ∈ padP n p c m0 m54 m40 m20 x0, x.1.ev ρ = x.2 := by
 have hp := padV_rg h1.1
 rw [← h2] at hp
 have hn : -1000000 ≤ ρ n ∧ ρ n ≤ 1000000 := by omega
 have hx0 : x0.ev ρ = ρ n - k := by
  rcases hx with ⟨rfl, rfl⟩ | rfl
  ·show ρ n = _; omega
  ·rw [nA_ev hn (by omega)]; omega
 intro x hm
 simp only [padP, List.mem_cons, List.not_mem_nil, or_false] at hm
 rcases hm with rfl | rfl | rfl | rfl | rfl
 ·show (SI.ev ρ (maxE (.var n) c) == ρ p) = true
  have hw : IntKind.i64.wrap (c - ρ n) = c - ρ n := by rw [wrap_i64']; omega
  have : SI.ev ρ (maxE (.var n) c) = binZ .andNot .i64 (IntKind.i64.wrap (c - ρ n)) (binZ .shr .i64 (IntKind.i64.wrap (c - ρ n)) (Int.ofNat 63)) := rfl
  rw [this, hw, maxZ (by omega) (by omega), beq_iff_eq, h2, hl, e1]
  rfl
 ·show decide (SI.ev ρ (npA n p m0) < x0.ev ρ) = false
  rw [npA_ev hn hp (by omega), hx0, decide_eq_false_iff_not]; omega
 ·show decide ((1514 : Int) < SI.ev ρ (npA n p m54)) = false
  have h3 : ρ n + ρ p ≤ k + 1460 := by
   rw [h2, hl]
   unfold padV
   split <;> omega
  rw [npA_ev hn hp (by omega), decide_eq_false_iff_not]; omega
 ·show decide (SI.ev ρ (npA n p m40) < SI.ev ρ (nA n m40)) = false
  rw [npA_ev hn hp (by omega), nA_ev hn (by omega), decide_eq_false_iff_not]; omega
 ·show decide (SI.ev ρ (npA n p m20) < SI.ev ρ (nA n m20)) = false
  rw [npA_ev hn hp (by omega), nA_ev hn (by omega), decide_eq_false_iff_not]; omega
theorem mem_app_ok {ρ : Nat → Int} {a b : List (SB × Bool)} (h1 : ∀ x ∈ a, x.1.ev ρ = x.2) (h2 : ∀ x ∈ b, x.1.ev ρ = x.2) : ∀ x ∈ a ++ b, x.1.ev ρ = x.2 := fun x hx => (List.mem_append.1 hx).elim (h1 x) (h2 x)
theorem mem_nil_ok {ρ : Nat → Int} : ∀ x ∈ ([] : List (SB × Bool)), x.1.ev ρ = x.2 := fun x hx => by cases hx
end Go.Proofs.YtooebogidjejoaaGreat
