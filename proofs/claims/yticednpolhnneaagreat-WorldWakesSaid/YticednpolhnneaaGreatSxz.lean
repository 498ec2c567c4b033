/-
  A run reckoned ahead: sums of sixteen bits, told by their rests.
-/
import Derived.Test.YticednpolhnneaaGreatSxv
set_option linter.unusedVariables false
set_option linter.unusedSimpArgs false
namespace Go.Proofs.YticednpolhnneaaGreat
open Go

noncomputable section
abbrev LF := List (Int × SI)
def modC (n : Int) : Int := Int.emod n (.ofNat (nat_lit 65535))
/-- a multiple of a letter is added -/
def insT (c : Int) (e : SI) (l : LF) : (LF → Bool) → Bool := List.rec (motive := fun _ => (LF → Bool) → Bool) (fun κ => Bool.rec (motive := fun _ => Bool) (κ [(c, e)]) (κ []) (beqF c (.ofNat (nat_lit 0))))
  (fun x r ih κ => Bool.rec (motive := fun _ => Bool) (ih fun r => κ (x :: r)) (forceI (modC (Int.add x.1 c)) fun n => Bool.rec (motive := fun _ => Bool) (κ ((n, x.2) :: r)) (κ r) (beqF n (.ofNat (nat_lit 0)))) (SI.beq x.2 e)) l
abbrev MK := Int → Int → LF → (Int → LF → Bool) → Bool
def rngIn (rg : List (Int × Int)) (e : SI) (lo hi : Int) : Bool := Option.rec (motive := fun _ => Bool) false (fun r => leF lo r.1 && leF r.2 hi) (rngS rg e)
def rngFit (r : Option (Int × Int)) (k : IntKind) : Bool := Option.rec (motive := fun _ => Bool) false (fun r => leF (minK k) r.1 && leF r.2 (maxK k)) r
def two (a b : Option (Int × Int)) (f : Int → Int → Int → Int → Int × Int) : Option (Int × Int) := opt1 a none fun la ha => opt1 b none fun lb hb => some (f la ha lb hb)
def mdB (rg : List (Int × Int)) (op : BinOp) (k : IntKind) (a b : SI) (iha ihb : MK) : MK := fun c s l κ => match op with
  | .add => Bool.rec (motive := fun _ => Bool) (insT c (.bin .add k a b) l (κ s)) (iha c s l fun s l => ihb c s l κ) (rngFit (two (rngS rg a) (rngS rg b) fun la ha lb hb => (Int.add la lb, Int.add ha hb)) k)
  | .sub => Bool.rec (motive := fun _ => Bool) (insT c (.bin .sub k a b) l (κ s)) (iha c s l fun s l => forceI (modC (Int.neg c)) fun c => ihb c s l κ) (rngFit (two (rngS rg a) (rngS rg b) fun la ha lb hb => (Int.sub la hb, Int.sub ha lb)) k)
  | .shl => match b with
    | .lit (.ofNat m) => Bool.rec (motive := fun _ => Bool) (insT c (.bin .shl k a b) l (κ s)) (forceI (modC (Int.mul c (.ofNat (Nat.pow (nat_lit 2) m)))) fun c => iha c s l κ) (Nat.ble m (bitsF k) && rngFit (opt1 (rngS rg a) none fun la ha => some (Int.mul la (.ofNat (Nat.pow (nat_lit 2) m)), Int.mul ha (.ofNat (Nat.pow (nat_lit 2) m)))) k)
    | _ => insT c (.bin .shl k a b) l (κ s)
  | .shr => match b with
    | .lit (.ofNat m) => Bool.rec (motive := fun _ => Bool) (insT c (.bin .shr k a b) l (κ s)) (forceI (modC (Int.mul c (.ofNat (nat_lit 256)))) fun c => iha c s l fun s l => forceI (modC (Int.neg c)) fun c => convC .u8 a fun e => insT c e l (κ s)) (Nat.beq m (nat_lit 8) && (Nat.ble (nat_lit 8) (bitsF k) && rngIn rg a (.ofNat (nat_lit 0)) (.ofNat (nat_lit 65535))))
    | _ => insT c (.bin .shr k a b) l (κ s)
  | .and => match b with
    | .lit (.ofNat m) => Bool.rec (motive := fun _ => Bool) (insT c (.bin .and k a b) l (κ s)) (iha c s l κ) (Nat.beq m (nat_lit 65535) && (wide32 k && rngIn rg a (.ofNat (nat_lit 0)) (.ofNat (nat_lit 65535))))
    | _ => insT c (.bin .and k a b) l (κ s)
  | op => insT c (.bin op k a b) l (κ s)
/-- c times a number is added, told by its rest by 65535 -/
def mdK (rg : List (Int × Int)) (e : SI) : MK := SI.rec (motive := fun _ => MK)
  (fun n c s l κ => forceI (modC (Int.add s (Int.mul c n))) fun s => κ s l)
  (fun i c s l κ => insT c (.var i) l (κ s))
  (fun op k a b iha ihb => mdB rg op k a b iha ihb)
  (fun k a ih c s l κ => Bool.rec (motive := fun _ => Bool) (insT c (.conv k a) l (κ s)) (ih c s l κ) (rngFit (rngS rg a) k))
  (fun a ih c s l κ => Bool.rec (motive := fun _ => Bool) (insT c (.fold a) l (κ s)) (ih c s l κ) (rngIn rg a (.ofNat (nat_lit 0)) (maxK .i64)))
  (fun a p o n _ _ c s l κ => insT c (.rs a p o n) l (κ s)) e
def noneL (s : Int) (l : LF) : Bool := beqF s (.ofNat (nat_lit 0)) && List.rec (motive := fun _ => Bool) true (fun _ _ _ => false) l
/-- numbers that are not below 0, and of which it is the sum, each perhaps some times: all of them are 0 if it is -/
def partsS (rg : List (Int × Int)) (e : SI) : List SI := SI.rec (motive := fun _ => List SI) (fun n => []) (fun i => [.var i])
  (fun op k a b iha ihb => match op with
    | .add => Bool.rec (motive := fun _ => List SI) [.bin .add k a b] (iha ++ ihb) (rngIn rg a (.ofNat (nat_lit 0)) (maxK .i64) && (rngIn rg b (.ofNat (nat_lit 0)) (maxK .i64) && rngFit (two (rngS rg a) (rngS rg b) fun la ha lb hb => (Int.add la lb, Int.add ha hb)) k))
    | .shl => match b with
      | .lit (.ofNat m) => Bool.rec (motive := fun _ => List SI) [.bin .shl k a b] iha (Nat.ble m (bitsF k) && (rngIn rg a (.ofNat (nat_lit 0)) (maxK .i64) && rngFit (opt1 (rngS rg a) none fun la ha => some (Int.mul la (.ofNat (Nat.pow (nat_lit 2) m)), Int.mul ha (.ofNat (Nat.pow (nat_lit 2) m)))) k))
      | b => [.bin .shl k a b]
    | op => [.bin op k a b])
  (fun k a _ => [.conv k a]) (fun a _ => [.fold a]) (fun a p o n _ _ => [.rs a p o n]) e
def memS (l : List SI) (e : SI) : Bool := List.rec (motive := fun _ => Bool) false (fun x _ ih => SI.beq x e || ih) l
/-- is it 0 if all of those are? -/
def zeroIf (l : List SI) (e : SI) : Bool := SI.rec (motive := fun _ => Bool) (fun n => beqF n (.ofNat (nat_lit 0))) (fun i => memS l (.var i))
  (fun op k a b iha ihb => match op with
    | .add => memS l (.bin .add k a b) || (iha && ihb)
    | .shl => memS l (.bin .shl k a b) || iha
    | op => memS l (.bin op k a b))
  (fun k a ih => memS l (.conv k a) || ih) (fun a _ => memS l (.fold a)) (fun a p o n _ _ => memS l (.rs a p o n)) e
def lowB (l : List SI) (e : SI) : Bool := match e with
  | .conv .u8 (.bin .sub .i64 (.lit (.ofNat 65535)) (.fold s)) => zeroIf l s
  | _ => false
def anyS (p : SI → Bool) (l : List SI) : Bool := List.rec (motive := fun _ => Bool) false (fun x _ ih => p x || ih) l
/-- among its parts is the lowest byte of a checksum of some of its other parts: it is not 0 -/
def posS (l : List SI) : Bool := anyS (lowB l) l
def posK (rg : List (Int × Int)) (e : SI) : Bool := rngIn rg e (.ofNat (nat_lit 1)) (maxK .i64) || (rngIn rg e (.ofNat (nat_lit 0)) (maxK .i64) && posS (partsS rg e))
/-- a sum that comes to 65535, whatever its letters are -/
def onesK (rg : List (Int × Int)) (e : SI) : Bool := posK rg e && mdK rg e (.ofNat (nat_lit 1)) (.ofNat (nat_lit 0)) [] noneL
end

def valL' (ρ : Nat → Int) : LF → Int
  | [] => 0
  | x :: l => x.1 * x.2.ev ρ + valL' ρ l
theorem modC_dvd (n : Int) : (65535 : Int) ∣ n - modC n := by
  show (65535 : Int) ∣ n - n % 65535
  omega
theorem insT_inv {c : Int} {e : SI} : ∀ {l : LF} {κ : LF → Bool}, insT c e l κ = true → ∃ l', κ l' = true ∧ ∀ ρ, (65535 : Int) ∣ (c * e.ev ρ + valL' ρ l) - valL' ρ l'
  | [], κ, h => by
    have h : Bool.rec (motive := fun _ => Bool) (κ [(c, e)]) (κ []) (beqF c (.ofNat (nat_lit 0))) = true := h
    cases hb : beqF c (.ofNat (nat_lit 0)) with
    | true =>
      rw [hb] at h
      rw [beqF_eq, decide_eq_true_eq] at hb
      have hb : c = 0 := hb
      exact ⟨[], h, fun ρ => by rw [hb]; simp [valL']⟩
    | false => rw [hb] at h; exact ⟨_, h, fun ρ => by simp [valL']⟩
  | x :: r, κ, h => by
    have h : Bool.rec (motive := fun _ => Bool) (insT c e r fun r => κ (x :: r)) (forceI (modC (Int.add x.1 c)) fun n => Bool.rec (motive := fun _ => Bool) (κ ((n, x.2) :: r)) (κ r) (beqF n (.ofNat (nat_lit 0)))) (SI.beq x.2 e) = true := h
    cases hs : SI.beq x.2 e with
    | false =>
      rw [hs] at h
      obtain ⟨l', h1, h2⟩ := insT_inv (κ := fun r => κ (x :: r)) h
      refine ⟨_, h1, fun ρ => ?_⟩
      have := h2 ρ
      simp only [valL']
      rw [show c * e.ev ρ + (x.1 * x.2.ev ρ + valL' ρ r) - (x.1 * x.2.ev ρ + valL' ρ l') = c * e.ev ρ + valL' ρ r - valL' ρ l' by omega]
      exact this
    | true =>
      rw [hs] at h
      have hxe := SI.beq_eq _ _ hs
      simp only [forceI_eq] at h
      have hd := modC_dvd (x.1 + c)
      have hd' : ∀ v : Int, (65535 : Int) ∣ (x.1 + c) * v - modC (x.1 + c) * v := fun v => by
        rw [← Int.sub_mul]
        exact Int.dvd_mul_of_dvd_left hd
      have key : ∀ ρ, c * e.ev ρ + (x.1 * x.2.ev ρ + valL' ρ r) = (x.1 + c) * x.2.ev ρ + valL' ρ r := fun ρ => by
        rw [← hxe, Int.add_mul]; omega
      cases hb : beqF (modC (Int.add x.1 c)) (.ofNat (nat_lit 0)) with
      | true =>
        rw [hb] at h
        rw [beqF_eq, decide_eq_true_eq] at hb
        have hb : modC (x.1 + c) = 0 := hb
        refine ⟨r, h, fun ρ => ?_⟩
        have := hd' (x.2.ev ρ)
        rw [hb] at this
        simp only [valL']
        rw [key]
        rw [show (x.1 + c) * x.2.ev ρ + valL' ρ r - valL' ρ r = (x.1 + c) * x.2.ev ρ - 0 * x.2.ev ρ by omega]
        exact this
      | false =>
        rw [hb] at h
        refine ⟨_, h, fun ρ => ?_⟩
        have := hd' (x.2.ev ρ)
        simp only [valL']
        rw [key]
        rw [show (x.1 + c) * x.2.ev ρ + valL' ρ r - (modC (Int.add x.1 c) * x.2.ev ρ + valL' ρ r) = (x.1 + c) * x.2.ev ρ - modC (Int.add x.1 c) * x.2.ev ρ by omega]
        exact this
theorem rngIn_ok {ρ : Nat → Int} {rg : List (Int × Int)} (hr : RgOk ρ rg) {e : SI} {lo hi : Int} (h : rngIn rg e lo hi = true) : lo ≤ e.ev ρ ∧ e.ev ρ ≤ hi := by
  unfold rngIn at h
  cases hx : rngS rg e with
  | none => rw [hx] at h; cases h
  | some r =>
    rw [hx] at h
    simp only [Bool.and_eq_true, leF_eq, decide_eq_true_eq] at h
    have := rngS_in hr e r.1 r.2 hx
    omega
theorem rngFit_ok {r : Option (Int × Int)} {k : IntKind} (h : rngFit r k = true) : ∃ l u, r = some (l, u) ∧ minK k ≤ l ∧ u ≤ maxK k := by
  unfold rngFit at h
  cases r with
  | none => cases h
  | some r =>
    simp only [Bool.and_eq_true, leF_eq, decide_eq_true_eq] at h
    exact ⟨r.1, r.2, rfl, h.1, h.2⟩
theorem two_ok {a b : Option (Int × Int)} {f : Int → Int → Int → Int → Int × Int} {p : Int × Int} (h : two a b f = some p) : ∃ la ha lb hb, a = some (la, ha) ∧ b = some (lb, hb) ∧ p = f la ha lb hb := by
  unfold two at h
  obtain ⟨la, ha, h1, h2⟩ := opt1_some h
  obtain ⟨lb, hb, h3, h4⟩ := opt1_some h2
  exact ⟨la, ha, lb, hb, h1, h3, (Option.some.inj h4).symm⟩
def MdOk (rg : List (Int × Int)) (e : SI) (m : MK) : Prop := ∀ {c s : Int} {l : LF} {κ : Int → LF → Bool}, m c s l κ = true → ∃ s' l', κ s' l' = true ∧ ∀ ρ, RgOk ρ rg → (65535 : Int) ∣ (c * e.ev ρ + (s + valL' ρ l)) - (s' + valL' ρ l')
theorem insT_md {rg : List (Int × Int)} {e : SI} {c s : Int} {l : LF} {κ : Int → LF → Bool} (h : insT c e l (κ s) = true) : ∃ s' l', κ s' l' = true ∧ ∀ ρ, RgOk ρ rg → (65535 : Int) ∣ (c * e.ev ρ + (s + valL' ρ l)) - (s' + valL' ρ l') := by
  obtain ⟨l', h1, h2⟩ := insT_inv h
  refine ⟨s, l', h1, fun ρ _ => ?_⟩
  have := h2 ρ
  rw [show c * e.ev ρ + (s + valL' ρ l) - (s + valL' ρ l') = c * e.ev ρ + valL' ρ l - valL' ρ l' by omega]
  exact this
theorem dvd_step {a b c : Int} (h : (65535 : Int) ∣ a - b) (k : (65535 : Int) ∣ b - c) : (65535 : Int) ∣ a - c := by omega
theorem mul_mod {c d v : Int} (h : (65535 : Int) ∣ c - d) : (65535 : Int) ∣ c * v - d * v := by
  rw [← Int.sub_mul]; exact Int.dvd_mul_of_dvd_left h
theorem md_same {rg : List (Int × Int)} {e a : SI} {m : MK} (ha : MdOk rg a m) (he : ∀ ρ, RgOk ρ rg → e.ev ρ = a.ev ρ) {c s : Int} {l : LF} {κ : Int → LF → Bool} (h : m c s l κ = true) : ∃ s' l', κ s' l' = true ∧ ∀ ρ, RgOk ρ rg → (65535 : Int) ∣ (c * e.ev ρ + (s + valL' ρ l)) - (s' + valL' ρ l') := by
  obtain ⟨s', l', h1, h2⟩ := ha h
  exact ⟨s', l', h1, fun ρ hr => by rw [he ρ hr]; exact h2 ρ hr⟩
theorem foldZ_mod : ∀ (m : Nat) (n : Int), 0 ≤ n → n < 9223372036854775808 → n < m → (65535 : Int) ∣ n - foldZ n := by
  intro m
  induction m with
  | zero => intro n h0 hb h1; omega
  | succ m ih =>
    intro n h0 hb h1
    unfold foldZ
    split
    · rename_i h
      have e : (n % 65536 + n / 65536 + 9223372036854775808) % 18446744073709551616 - 9223372036854775808 = n % 65536 + n / 65536 := by
        rw [Int.emod_eq_of_lt (by omega) (by omega)]; omega
      rw [e]
      have := ih (n % 65536 + n / 65536) (by omega) (by omega) (by omega)
      exact dvd_step (by omega) this
    · simp
theorem and_all {k : IntKind} (hk : wide32 k = true) {x : Int} (h0 : 0 ≤ x) (h1 : x ≤ 65535) : binZ .and k x 65535 = x := by
  obtain ⟨w1, w2, w3⟩ := wide32_bits hk
  obtain ⟨a, rfl⟩ := Int.eq_ofNat_of_zero_le h0
  have hz : ∀ c : Nat, c < 2 ^ 32 → (BitVec.ofInt k.bits (c : Int)).toNat = c := fun c hc => by
    rw [BitVec.toNat_ofInt]
    have : c < 2 ^ k.bits := Nat.lt_of_lt_of_le hc (Nat.pow_le_pow_right (by omega) w1)
    rw [Int.emod_eq_of_lt (by omega) (by exact_mod_cast this)]
    rfl
  show k.wrap ((BitVec.ofInt k.bits (a : Int) &&& BitVec.ofInt k.bits ((65535 : Nat) : Int)).toNat : Int) = _
  rw [BitVec.toNat_and, hz _ (by omega), hz _ (by omega), show (65535 : Nat) = 2 ^ 16 - 1 from rfl, Nat.and_two_pow_sub_one_eq_mod, Nat.mod_eq_of_lt (by omega)]
  exact wrap_in ⟨by omega, by omega⟩
theorem mdB_ok {rg : List (Int × Int)} {op : BinOp} {k : IntKind} {a b : SI} {iha ihb : MK} (ha : MdOk rg a iha) (hb : MdOk rg b ihb) : MdOk rg (.bin op k a b) (mdB rg op k a b iha ihb) := by
  intro c s l κ h
  unfold mdB at h
  split at h
  · cases hf : rngFit (two (rngS rg a) (rngS rg b) fun la ha lb hb => (Int.add la lb, Int.add ha hb)) k with
    | false => rw [hf] at h; exact insT_md h
    | true =>
      rw [hf] at h
      obtain ⟨lo, hi, e1, e2, e3⟩ := rngFit_ok hf
      obtain ⟨la, ua, lb, ub, f1, f2, f3⟩ := two_ok e1
      cases f3
      obtain ⟨s1, l1, h1, h2⟩ := ha h
      obtain ⟨s2, l2, h3, h4⟩ := hb h1
      refine ⟨s2, l2, h3, fun ρ hr => ?_⟩
      have r1 := rngS_in hr a _ _ f1
      have r2 := rngS_in hr b _ _ f2
      have e2 : minK k ≤ la + lb := e2
      have e3 : ua + ub ≤ maxK k := e3
      have hv : (SI.bin .add k a b).ev ρ = a.ev ρ + b.ev ρ := wrap_in (k := k) ⟨by omega, by omega⟩
      have q1 := h2 ρ hr
      have q2 := h4 ρ hr
      rw [hv, Int.mul_add]
      omega
  · cases hf : rngFit (two (rngS rg a) (rngS rg b) fun la ha lb hb => (Int.sub la hb, Int.sub ha lb)) k with
    | false => rw [hf] at h; exact insT_md h
    | true =>
      rw [hf] at h
      obtain ⟨lo, hi, e1, e2, e3⟩ := rngFit_ok hf
      obtain ⟨la, ua, lb, ub, f1, f2, f3⟩ := two_ok e1
      cases f3
      obtain ⟨s1, l1, h1, h2⟩ := ha h
      rw [forceI_eq] at h1
      obtain ⟨s2, l2, h3, h4⟩ := hb h1
      refine ⟨s2, l2, h3, fun ρ hr => ?_⟩
      have r1 := rngS_in hr a _ _ f1
      have r2 := rngS_in hr b _ _ f2
      have e2 : minK k ≤ la - ub := e2
      have e3 : ua - lb ≤ maxK k := e3
      have hv : (SI.bin .sub k a b).ev ρ = a.ev ρ - b.ev ρ := wrap_in (k := k) ⟨by omega, by omega⟩
      have q1 := h2 ρ hr
      have q2 := h4 ρ hr
      have q3 : (65535 : Int) ∣ -c * b.ev ρ - modC (-c) * b.ev ρ := mul_mod (modC_dvd _)
      rw [hv, Int.mul_sub]
      rw [Int.neg_mul] at q3
      have q2 : (65535 : Int) ∣ modC (-c) * b.ev ρ + (s1 + valL' ρ l1) - (s2 + valL' ρ l2) := q2
      omega
  · split at h
    · rename_i m
      cases hf : (Nat.ble m (bitsF k) && rngFit (opt1 (rngS rg a) none fun la ha => some (Int.mul la (.ofNat (Nat.pow (nat_lit 2) m)), Int.mul ha (.ofNat (Nat.pow (nat_lit 2) m)))) k) with
      | false => rw [hf] at h; exact insT_md h
      | true =>
        rw [hf] at h
        simp only [Bool.and_eq_true, natBle, decide_eq_true_eq] at hf
        obtain ⟨hm, hf⟩ := hf
        obtain ⟨lo, hi, e1, e2, e3⟩ := rngFit_ok hf
        obtain ⟨la, ua, f1, f2⟩ := opt1_some e1
        cases f2
        rw [forceI_eq] at h
        obtain ⟨s1, l1, h1, h2⟩ := ha h
        refine ⟨s1, l1, h1, fun ρ hr => ?_⟩
        have r1 := rngS_in hr a _ _ f1
        have hp : (Int.ofNat (Nat.pow 2 m)) = (2 : Int) ^ m := by rw [Int.ofNat_eq_natCast]; exact Int.natCast_pow 2 m
        have p0 : (0 : Int) < 2 ^ m := Int.pow_pos (by omega)
        have e2 : minK k ≤ la * Int.ofNat (Nat.pow 2 m) := e2
        have e3 : ua * Int.ofNat (Nat.pow 2 m) ≤ maxK k := e3
        rw [hp] at e2 e3
        have b1 : la * 2 ^ m ≤ a.ev ρ * 2 ^ m := Int.mul_le_mul_of_nonneg_right r1.1 (by omega)
        have b2 : a.ev ρ * 2 ^ m ≤ ua * 2 ^ m := Int.mul_le_mul_of_nonneg_right r1.2 (by omega)
        have hv : (SI.bin .shl k a (.lit (.ofNat m))).ev ρ = a.ev ρ * 2 ^ m := by
          show k.wrap (a.ev ρ * 2 ^ (min (Int.ofNat m).toNat k.bits)) = _
          rw [bitsF_eq] at hm
          rw [show (Int.ofNat m).toNat = m from rfl, Nat.min_eq_left hm]
          exact wrap_in ⟨by omega, by omega⟩
        have q1 := h2 ρ hr
        have q2 : (65535 : Int) ∣ (c * 2 ^ m) * a.ev ρ - modC (c * 2 ^ m) * a.ev ρ := mul_mod (modC_dvd _)
        rw [show Int.mul c (Int.ofNat (Nat.pow (nat_lit 2) m)) = c * 2 ^ m by rw [← hp]; rfl] at q1
        rw [hv, show c * (a.ev ρ * 2 ^ m) = (c * 2 ^ m) * a.ev ρ by rw [Int.mul_comm (a.ev ρ), Int.mul_assoc]]
        omega
    · exact insT_md h
  · split at h
    · rename_i m
      cases hf : (Nat.beq m (nat_lit 8) && (Nat.ble (nat_lit 8) (bitsF k) && rngIn rg a (.ofNat (nat_lit 0)) (.ofNat (nat_lit 65535)))) with
      | false => rw [hf] at h; exact insT_md h
      | true =>
        rw [hf] at h
        simp only [Bool.and_eq_true, natBeq, natBle, decide_eq_true_eq] at hf
        obtain ⟨hm, hk, hf⟩ := hf
        have hm : m = 8 := hm
        subst hm
        rw [forceI_eq] at h
        obtain ⟨s1, l1, h1, h2⟩ := ha h
        rw [forceI_eq] at h1
        obtain ⟨e, he, hev⟩ := convC_spec .u8 a (fun e => insT (modC (Int.neg (modC (Int.mul c (.ofNat (nat_lit 256)))))) e l1 (κ s1))
        rw [he] at h1
        obtain ⟨l2, h3, h4⟩ := insT_inv h1
        refine ⟨s1, l2, h3, fun ρ hr => ?_⟩
        have r1 := rngIn_ok hr hf
        have r1 : (0 : Int) ≤ a.ev ρ ∧ a.ev ρ ≤ 65535 := r1
        have hv : (SI.bin .shr k a (.lit (.ofNat 8))).ev ρ = a.ev ρ / 256 := by
          show binZ .shr k (a.ev ρ) (Int.ofNat 8) = _
          rw [bitsF_eq] at hk
          rw [shr_div hk]
          rfl
        have hlow : e.ev ρ = a.ev ρ % 256 := by
          rw [hev, wrap_uns rfl]
          rfl
        have q1 := h2 ρ hr
        have q2 := h4 ρ
        rw [hlow] at q2
        rw [hv]
        have d1 : (65535 : Int) ∣ c * 256 - modC (Int.mul c (.ofNat (nat_lit 256))) := modC_dvd _
        generalize hc1 : modC (Int.mul c (.ofNat (nat_lit 256))) = c1 at *
        have d2 : (65535 : Int) ∣ -c1 - modC (Int.neg c1) := modC_dvd _
        generalize hc2 : modC (Int.neg c1) = c2 at *
        have m2 : (65535 : Int) ∣ (-c1) * (a.ev ρ % 256) - c2 * (a.ev ρ % 256) := mul_mod d2
        -- 256 times the whole
        have hx : a.ev ρ = 256 * (a.ev ρ / 256) + a.ev ρ % 256 := by omega
        have m1 : (65535 : Int) ∣ c * 256 * (256 * (a.ev ρ / 256)) - c1 * (256 * (a.ev ρ / 256)) := mul_mod d1
        have e1 : c * 256 * (256 * (a.ev ρ / 256)) = 65536 * (c * (a.ev ρ / 256)) := by
          rw [← Int.mul_assoc, Int.mul_assoc c 256 256, Int.mul_comm c, Int.mul_assoc]; rfl
        have e2 : c1 * a.ev ρ = c1 * (256 * (a.ev ρ / 256)) + c1 * (a.ev ρ % 256) := by
          rw [← Int.mul_add, ← hx]
        rw [e1] at m1
        rw [e2] at q1
        rw [Int.neg_mul] at m2
        generalize c * (a.ev ρ / 256) = v at *
        generalize c1 * (256 * (a.ev ρ / 256)) = u at *
        generalize c1 * (a.ev ρ % 256) = t at *
        generalize c2 * (a.ev ρ % 256) = z at *
        omega
    · exact insT_md h
  · split at h
    · rename_i m
      cases hf : (Nat.beq m (nat_lit 65535) && (wide32 k && rngIn rg a (.ofNat (nat_lit 0)) (.ofNat (nat_lit 65535)))) with
      | false => rw [hf] at h; exact insT_md h
      | true =>
        rw [hf] at h
        simp only [Bool.and_eq_true, natBeq, decide_eq_true_eq] at hf
        obtain ⟨hm, hk, hf⟩ := hf
        have hm : m = 65535 := hm
        subst hm
        refine md_same ha (fun ρ hr => ?_) h
        have r1 := rngIn_ok hr hf
        exact and_all hk r1.1 r1.2
    · exact insT_md h
  · exact insT_md h
theorem mdK_ok {rg : List (Int × Int)} : ∀ e : SI, MdOk rg e (mdK rg e) := by
  intro e
  induction e with
  | lit n =>
    intro c s l κ h
    have h : forceI (modC (Int.add s (Int.mul c n))) (fun s => κ s l) = true := h
    rw [forceI_eq] at h
    refine ⟨_, l, h, fun ρ _ => ?_⟩
    have := modC_dvd (s + c * n)
    show (65535 : Int) ∣ c * n + (s + valL' ρ l) - (modC (s + c * n) + valL' ρ l)
    omega
  | var i => intro c s l κ h; exact insT_md h
  | bin op k a b iha ihb => exact mdB_ok iha ihb
  | conv k a ih =>
    intro c s l κ h
    have h : Bool.rec (motive := fun _ => Bool) (insT c (.conv k a) l (κ s)) (mdK rg a c s l κ) (rngFit (rngS rg a) k) = true := h
    cases hf : rngFit (rngS rg a) k with
    | false => rw [hf] at h; exact insT_md h
    | true =>
      rw [hf] at h
      obtain ⟨lo, hi, e1, e2, e3⟩ := rngFit_ok hf
      refine md_same ih (fun ρ hr => ?_) h
      have := rngS_in hr a _ _ e1
      exact wrap_in (k := k) ⟨by omega, by omega⟩
  | rs a p o n iho ihn => intro c s l κ h; exact insT_md h
  | fold a ih =>
    intro c s l κ h
    have h : Bool.rec (motive := fun _ => Bool) (insT c (.fold a) l (κ s)) (mdK rg a c s l κ) (rngIn rg a (.ofNat (nat_lit 0)) (maxK .i64)) = true := h
    cases hf : rngIn rg a (.ofNat (nat_lit 0)) (maxK .i64) with
    | false => rw [hf] at h; exact insT_md h
    | true =>
      rw [hf] at h
      obtain ⟨s1, l1, h1, h2⟩ := ih h
      refine ⟨s1, l1, h1, fun ρ hr => ?_⟩
      have r := rngIn_ok hr hf
      have r1 : (0 : Int) ≤ a.ev ρ := r.1
      have r2 : a.ev ρ ≤ 9223372036854775807 := r.2
      have hm := foldZ_mod ((a.ev ρ).toNat + 1) (a.ev ρ) r1 (by omega) (by omega)
      have q := h2 ρ hr
      have m1 : (65535 : Int) ∣ c * a.ev ρ - c * foldZ (a.ev ρ) := by
        rw [← Int.mul_sub]; exact Int.dvd_mul_of_dvd_right hm
      show (65535 : Int) ∣ c * foldZ (a.ev ρ) + (s + valL' ρ l) - (s1 + valL' ρ l1)
      omega
theorem memS_ok : ∀ {l : List SI} {e : SI}, memS l e = true → e ∈ l
  | [], e, h => by cases h
  | x :: l, e, h => by
    have h : (SI.beq x e || memS l e) = true := h
    rw [Bool.or_eq_true] at h
    rcases h with h | h
    · rw [SI.beq_eq _ _ h]; exact List.mem_cons_self
    · exact List.mem_cons_of_mem _ (memS_ok h)
theorem shl0 (k : IntKind) (y : Int) : binZ .shl k 0 y = 0 := by
  show k.wrap (0 * _) = 0
  rw [Int.zero_mul]
  cases k <;> decide
theorem wrap0 (k : IntKind) : k.wrap 0 = 0 := by cases k <;> decide
theorem zeroIf_ok {l : List SI} {ρ : Nat → Int} (hl : ∀ x ∈ l, x.ev ρ = 0) : ∀ e : SI, zeroIf l e = true → e.ev ρ = 0 := by
  intro e
  induction e with
  | lit n =>
    intro h
    have h : beqF n (.ofNat 0) = true := h
    rw [beqF_eq, decide_eq_true_eq] at h
    exact h
  | var i => intro h; exact hl _ (memS_ok h)
  | bin op k a b iha ihb =>
    intro h
    by_cases hm : memS l (.bin op k a b) = true
    · exact hl _ (memS_ok hm)
    · cases op with
      | add =>
        have h : (memS l (.bin .add k a b) || (zeroIf l a && zeroIf l b)) = true := h
        rw [Bool.or_eq_true, Bool.and_eq_true] at h
        rcases h with h | h
        · exact absurd h hm
        · show k.wrap (a.ev ρ + b.ev ρ) = 0
          rw [iha h.1, ihb h.2]
          exact wrap0 k
      | shl =>
        have h : (memS l (.bin .shl k a b) || zeroIf l a) = true := h
        rw [Bool.or_eq_true] at h
        rcases h with h | h
        · exact absurd h hm
        · show binZ .shl k (a.ev ρ) (b.ev ρ) = 0
          rw [iha h]
          exact shl0 k _
      | _ => exact absurd h hm
  | conv k a ih =>
    intro h
    have h : (memS l (.conv k a) || zeroIf l a) = true := h
    rw [Bool.or_eq_true] at h
    rcases h with h | h
    · exact hl _ (memS_ok h)
    · show k.wrap (a.ev ρ) = 0
      rw [ih h]
      exact wrap0 k
  | fold a ih => intro h; exact hl _ (memS_ok h)
  | rs a p o n iho ihn => intro h; exact hl _ (memS_ok h)
theorem partsS_ok {rg : List (Int × Int)} {ρ : Nat → Int} (hr : RgOk ρ rg) : ∀ e : SI, e.ev ρ = 0 → ∀ x ∈ partsS rg e, x.ev ρ = 0 := by
  have one : ∀ {e : SI}, e.ev ρ = 0 → ∀ x ∈ [e], x.ev ρ = 0 := by
    intro e h x hx
    simp only [List.mem_cons, List.not_mem_nil, or_false] at hx
    rw [hx]; exact h
  intro e
  induction e with
  | lit n => intro _ x hx; cases hx
  | var i => intro h; exact one h
  | bin op k a b iha ihb =>
    intro h
    cases op with
    | add =>
      show ∀ x ∈ Bool.rec (motive := fun _ => List SI) [.bin .add k a b] (partsS rg a ++ partsS rg b) (rngIn rg a (.ofNat (nat_lit 0)) (maxK .i64) && (rngIn rg b (.ofNat (nat_lit 0)) (maxK .i64) && rngFit (two (rngS rg a) (rngS rg b) fun la ha lb hb => (Int.add la lb, Int.add ha hb)) k)), x.ev ρ = 0
      cases hc : (rngIn rg a (.ofNat (nat_lit 0)) (maxK .i64) && (rngIn rg b (.ofNat (nat_lit 0)) (maxK .i64) && rngFit (two (rngS rg a) (rngS rg b) fun la ha lb hb => (Int.add la lb, Int.add ha hb)) k)) with
      | false => exact one h
      | true =>
        simp only [Bool.and_eq_true] at hc
        obtain ⟨c1, c2, c3⟩ := hc
        obtain ⟨a1, _⟩ := rngIn_ok hr c1
        obtain ⟨b1, _⟩ := rngIn_ok hr c2
        have a1 : (0 : Int) ≤ a.ev ρ := a1
        have b1 : (0 : Int) ≤ b.ev ρ := b1
        obtain ⟨lo, hi, e1, e2, e3⟩ := rngFit_ok c3
        obtain ⟨la, ua, lb, ub, f1, f2, f3⟩ := two_ok e1
        cases f3
        have q1 := rngS_in hr a _ _ f1
        have q2 := rngS_in hr b _ _ f2
        have e2 : minK k ≤ la + lb := e2
        have e3 : ua + ub ≤ maxK k := e3
        have hs : k.wrap (a.ev ρ + b.ev ρ) = a.ev ρ + b.ev ρ := wrap_in (k := k) ⟨by omega, by omega⟩
        have h : k.wrap (a.ev ρ + b.ev ρ) = 0 := h
        rw [hs] at h
        intro x hx
        rcases List.mem_append.1 hx with hx | hx
        · exact iha (by omega) x hx
        · exact ihb (by omega) x hx
    | shl =>
      cases b with
      | lit n =>
        cases n with
        | ofNat m =>
          show ∀ x ∈ Bool.rec (motive := fun _ => List SI) [.bin .shl k a (.lit (.ofNat m))] (partsS rg a) (Nat.ble m (bitsF k) && (rngIn rg a (.ofNat (nat_lit 0)) (maxK .i64) && rngFit (opt1 (rngS rg a) none fun la ha => some (Int.mul la (.ofNat (Nat.pow (nat_lit 2) m)), Int.mul ha (.ofNat (Nat.pow (nat_lit 2) m)))) k)), x.ev ρ = 0
          cases hc : (Nat.ble m (bitsF k) && (rngIn rg a (.ofNat (nat_lit 0)) (maxK .i64) && rngFit (opt1 (rngS rg a) none fun la ha => some (Int.mul la (.ofNat (Nat.pow (nat_lit 2) m)), Int.mul ha (.ofNat (Nat.pow (nat_lit 2) m)))) k)) with
          | false => exact one h
          | true =>
            simp only [Bool.and_eq_true, natBle, decide_eq_true_eq] at hc
            obtain ⟨hm, c1, hf⟩ := hc
            obtain ⟨a1, _⟩ := rngIn_ok hr c1
            have a1 : (0 : Int) ≤ a.ev ρ := a1
            obtain ⟨lo, hi, e1, e2, e3⟩ := rngFit_ok hf
            obtain ⟨la, ua, f1, f2⟩ := opt1_some e1
            cases f2
            have r1 := rngS_in hr a _ _ f1
            have hp : (Int.ofNat (Nat.pow 2 m)) = (2 : Int) ^ m := by rw [Int.ofNat_eq_natCast]; exact Int.natCast_pow 2 m
            have p0 : (0 : Int) < 2 ^ m := Int.pow_pos (by omega)
            have e2 : minK k ≤ la * Int.ofNat (Nat.pow 2 m) := e2
            have e3 : ua * Int.ofNat (Nat.pow 2 m) ≤ maxK k := e3
            rw [hp] at e2 e3
            have b1 : la * 2 ^ m ≤ a.ev ρ * 2 ^ m := Int.mul_le_mul_of_nonneg_right r1.1 (by omega)
            have b2 : a.ev ρ * 2 ^ m ≤ ua * 2 ^ m := Int.mul_le_mul_of_nonneg_right r1.2 (by omega)
            have hv : (SI.bin .shl k a (.lit (.ofNat m))).ev ρ = a.ev ρ * 2 ^ m := by
              show k.wrap (a.ev ρ * 2 ^ (min (Int.ofNat m).toNat k.bits)) = _
              rw [bitsF_eq] at hm
              rw [show (Int.ofNat m).toNat = m from rfl, Nat.min_eq_left hm]
              exact wrap_in ⟨by omega, by omega⟩
            rw [hv] at h
            refine iha ?_
            rcases Int.mul_eq_zero.1 h with h | h
            · exact h
            · omega
        | negSucc m => exact one h
      | var _ => exact one h
      | bin _ _ _ _ => exact one h
      | conv _ _ => exact one h
      | fold _ => exact one h
      | rs _ _ _ _ => exact one h
    | _ => exact one h
  | conv k a ih => intro h; exact one h
  | fold a ih => intro h; exact one h
  | rs a p o n iho ihn => intro h; exact one h
theorem posS_ok {rg : List (Int × Int)} {e : SI} (h : posS (partsS rg e) = true) {ρ : Nat → Int} (hr : RgOk ρ rg) : e.ev ρ ≠ 0 := by
  intro h0
  have hl := partsS_ok hr e h0
  have gen : ∀ l' : List SI, (∀ x ∈ l', x ∈ partsS rg e) → anyS (lowB (partsS rg e)) l' = true → False := by
    intro l'
    induction l' with
    | nil => intro _ h; cases h
    | cons x l' ih =>
      intro hm h
      have h : (lowB (partsS rg e) x || anyS (lowB (partsS rg e)) l') = true := h
      rw [Bool.or_eq_true] at h
      rcases h with h | h
      · have hx := hl x (hm x List.mem_cons_self)
        unfold lowB at h
        split at h
        · have hs := zeroIf_ok hl _ h
          simp only [SI.ev, hs] at hx
          have hf : foldZ 0 = 0 := by rw [foldZ]; decide
          rw [hf] at hx
          revert hx
          decide
        · cases h
      · exact ih (fun y hy => hm y (List.mem_cons_of_mem _ hy)) h
  exact gen _ (fun x hx => hx) h
theorem posK_ok {rg : List (Int × Int)} {e : SI} (h : posK rg e = true) {ρ : Nat → Int} (hr : RgOk ρ rg) : 1 ≤ e.ev ρ ∧ e.ev ρ ≤ 9223372036854775807 := by
  unfold posK at h
  rw [Bool.or_eq_true, Bool.and_eq_true] at h
  rcases h with h | ⟨h, h1⟩
  · exact rngIn_ok hr h
  · have r := rngIn_ok hr h
    have r1 : (0 : Int) ≤ e.ev ρ := r.1
    have r2 : e.ev ρ ≤ 9223372036854775807 := r.2
    have := posS_ok h1 hr
    exact ⟨by omega, r2⟩
theorem onesK_ok {rg : List (Int × Int)} {e : SI} (h : onesK rg e = true) {ρ : Nat → Int} (hr : RgOk ρ rg) : foldZ (e.ev ρ) = 65535 := by
  unfold onesK at h
  simp only [Bool.and_eq_true] at h
  have r := posK_ok h.1 hr
  have r1 : (1 : Int) ≤ e.ev ρ := r.1
  have r2 : e.ev ρ ≤ 9223372036854775807 := r.2
  obtain ⟨s', l', h1, h2⟩ := mdK_ok e h.2
  have hn : s' = 0 ∧ l' = [] := by
    unfold noneL at h1
    simp only [Bool.and_eq_true, beqF_eq, decide_eq_true_eq] at h1
    refine ⟨h1.1, ?_⟩
    cases l' with
    | nil => rfl
    | cons x l => cases h1.2
  obtain ⟨rfl, rfl⟩ := hn
  have q := h2 ρ hr
  have q : (65535 : Int) ∣ 1 * e.ev ρ + (0 + 0) - (0 + 0) := q
  have hm := foldZ_mod ((e.ev ρ).toNat + 1) (e.ev ρ) (by omega) (by omega) (by omega)
  have hi := foldZ_in ((e.ev ρ).toNat + 1) (e.ev ρ) (by omega) (by omega) (by omega)
  have hp := foldZ_pos ((e.ev ρ).toNat + 1) (e.ev ρ) (by omega) (by omega) (by omega)
  omega

end Go.Proofs.YticednpolhnneaaGreat
