/-
  A run reckoned ahead: the quick figures are the model's; rows by number; values and their places.
-/
import Derived.Test.YticednpolhnneaaGreatSxb
set_option linter.unusedVariables false
set_option linter.unusedSimpArgs false
namespace Go.Proofs.YticednpolhnneaaGreat
open Go

theorem natBeq (a b : Nat) : Nat.beq a b = decide (a = b) := by
  cases h : Nat.beq a b with
  | true => have := Nat.eq_of_beq_eq_true h; simp [this]
  | false => have := Nat.ne_of_beq_eq_false h; simp [this]
theorem natBle (a b : Nat) : Nat.ble a b = decide (a ≤ b) := by
  by_cases h : a ≤ b
  · rw [Nat.ble_eq_true_of_le h]; simp [h]
  · have : Nat.ble a b ≠ true := fun e => h (Nat.le_of_ble_eq_true e)
    rw [decide_eq_false h]
    exact Bool.eq_false_iff.2 this
theorem natBlt (a b : Nat) : Nat.blt a b = decide (a < b) := natBle (a + 1) b

/-! rows by number -/
def Pos.num : Pos → Nat
  | .here => 0
  | .left p => 2 * p.num + 1
  | .right p => 2 * p.num + 2
theorem posF_num : ∀ (f k : Nat), k < f → (posF f k).num = k
  | 0, k, h => by omega
  | f + 1, 0, h => rfl
  | f + 1, k + 1, h => by
    have hk : (posF f (k / 2)).num = k / 2 := posF_num f (k / 2) (by omega)
    show (Bool.rec (motive := fun _ => Pos) (.right (posF f (k / 2))) (.left (posF f (k / 2))) (Nat.beq (k % 2) 0) : Pos).num = k + 1
    by_cases h2 : k % 2 = 0
    · rw [show Nat.beq (k % 2) 0 = true by rw [natBeq]; simp [h2]]
      show 2 * (posF f (k / 2)).num + 1 = k + 1
      omega
    · rw [show Nat.beq (k % 2) 0 = false by rw [natBeq]; simp [h2]]
      show 2 * (posF f (k / 2)).num + 2 = k + 1
      omega
theorem posOf_num (k : Nat) : (posOf k).num = k := posF_num _ _ (Nat.lt_succ_self k)
theorem posOf_inj {j k : Nat} (h : posOf j = posOf k) : j = k := by rw [← posOf_num j, h, posOf_num]
theorem Tr.getP_nil {α : Type} (p : Pos) : Tr.getP p (.nil : Tr α) = none := by cases p <;> rfl
theorem Tr.get_nil {α : Type} (k : Nat) : (Tr.nil : Tr α).get k = none := Tr.getP_nil _
theorem Tr.getP_setP {α : Type} (x : α) : ∀ (p q : Pos) (t : Tr α), (q = p → Tr.getP q (Tr.setP x p t) = some x) ∧ (q ≠ p → Tr.getP q (Tr.setP x p t) = Tr.getP q t)
  | .here, .here, t => ⟨fun _ => by cases t <;> rfl, fun h => absurd rfl h⟩
  | .here, .left q, t => ⟨(nomatch ·), fun _ => by cases t with | nil => exact Tr.getP_nil _ | node v l r => rfl⟩
  | .here, .right q, t => ⟨(nomatch ·), fun _ => by cases t with | nil => exact Tr.getP_nil _ | node v l r => rfl⟩
  | .left p, .here, t => ⟨(nomatch ·), fun _ => by cases t <;> rfl⟩
  | .right p, .here, t => ⟨(nomatch ·), fun _ => by cases t <;> rfl⟩
  | .left p, .right q, t => ⟨(nomatch ·), fun _ => by cases t with | nil => exact Tr.getP_nil _ | node v l r => rfl⟩
  | .right p, .left q, t => ⟨(nomatch ·), fun _ => by cases t with | nil => exact Tr.getP_nil _ | node v l r => rfl⟩
  | .left p, .left q, t => by
    refine ⟨fun h => ?_, fun h => ?_⟩
    · cases t with
      | nil => exact (Tr.getP_setP x p q .nil).1 (by injection h)
      | node v l r => exact (Tr.getP_setP x p q l).1 (by injection h)
    · have h : q ≠ p := fun e => h (by rw [e])
      cases t with
      | nil => exact ((Tr.getP_setP x p q .nil).2 h).trans (Tr.getP_nil _)
      | node v l r => exact (Tr.getP_setP x p q l).2 h
  | .right p, .right q, t => by
    refine ⟨fun h => ?_, fun h => ?_⟩
    · cases t with
      | nil => exact (Tr.getP_setP x p q .nil).1 (by injection h)
      | node v l r => exact (Tr.getP_setP x p q r).1 (by injection h)
    · have h : q ≠ p := fun e => h (by rw [e])
      cases t with
      | nil => exact ((Tr.getP_setP x p q .nil).2 h).trans (Tr.getP_nil _)
      | node v l r => exact (Tr.getP_setP x p q r).2 h
theorem Tr.get_set {α : Type} (t : Tr α) (k : Nat) (x : α) (j : Nat) : (t.set k x).get j = if j = k then some x else t.get j := by
  by_cases h : j = k
  · rw [if_pos h]; exact (Tr.getP_setP x _ _ t).1 (by rw [h])
  · rw [if_neg h]; exact (Tr.getP_setP x _ _ t).2 fun e => h (posOf_inj e)

/-! temporaries -/
theorem Ts.get_put (d : Nat) (v : AV) (t : Ts) (e : Nat) : (Ts.put d v t).get e = some v ∧ e = d ∨ (Ts.put d v t).get e = t.get e ∧ e ≠ d ∨ t.get e = none ∧ (Ts.put d v t).get e = none := by
  by_cases h : e = d
  · exact .inl ⟨(Tr.get_set t d v e).trans (if_pos h), h⟩
  · exact .inr (.inl ⟨(Tr.get_set t d v e).trans (if_neg h), h⟩)
theorem Ts.get_nil (d : Nat) : Ts.nil.get d = none := Tr.get_nil d
theorem Ts.getK_eq (t : Ts) (d : Nat) (κ : AV → R) : t.getK d κ = match t.get d with | some v => κ v | none => .fail 1 := by
  unfold Ts.getK Ts.get
  cases Tr.getP (posOf d) t <;> rfl
theorem tsF_get : ∀ (l : List AV) (n : Nat) (t : Ts) (d : Nat) (v : AV), (tsF l n t).get d = some v → (n ≤ d ∧ l[d - n]? = some v) ∨ t.get d = some v
  | [], n, t, d, v, h => .inr h
  | u :: l, n, t, d, v, h => by
    have h : (tsF l (n + 1) (Ts.put n u t)).get d = some v := h
    rcases tsF_get l (n + 1) _ d v h with ⟨h1, h2⟩ | h1
    · exact .inl ⟨by omega, by rw [show d - n = (d - (n + 1)) + 1 by omega]; simpa using h2⟩
    · rcases Ts.get_put n u t d with ⟨h2, rfl⟩ | ⟨h2, h3⟩ | ⟨h2, h3⟩
      · rw [h2] at h1; cases h1; exact .inl ⟨Nat.le_refl _, by simp⟩
      · rw [h2] at h1; exact .inr h1
      · rw [h3] at h1; cases h1
theorem skel_get (d : Nat) : ∀ p : Pos, Tr.getP p (skel d) = none := by
  induction d with
  | zero => intro p; exact Tr.getP_nil p
  | succ d ih => intro p; cases p with
    | here => rfl
    | left p => exact ih p
    | right p => exact ih p
theorem tsOf_get {sz : Nat} {l : List AV} {d : Nat} {v : AV} (h : (tsOf sz l).get d = some v) : l[d]? = some v := by
  rcases tsF_get l 0 _ d v h with ⟨_, h1⟩ | h1
  · simpa using h1
  · rw [show (skel (Nat.succ (Nat.log2 sz))).get d = none from skel_get _ _] at h1; cases h1

theorem forceN_eq {α : Type} (n : Nat) (k : Nat → α) : forceN n k = k n := by cases n <;> rfl
theorem forceI_eq {α : Type} (n : Int) (k : Int → α) : forceI n k = k n := by cases n <;> simp [forceI, forceN_eq]
theorem forceB_eq {α : Type} (b : Bool) (k : Bool → α) : forceB b k = k b := by cases b <;> rfl

/-! figures -/
theorem wrapF_eq (k : IntKind) (n : Int) : wrapF k n = k.wrap n := by
  cases k <;> simp [wrapF, IntKind.wrap, IntKind.bits, IntKind.signed, halfF, modF] <;>
    (try simp only [show ∀ a b : Int, Int.sub a b = a - b from fun _ _ => rfl, show ∀ a b : Int, Int.add a b = a + b from fun _ _ => rfl, show ∀ a b : Int, Int.emod a b = a % b from fun _ _ => rfl]) <;>
    (try split) <;> omega
theorem bltF_eq (a b : Int) : bltF a b = decide (a < b) := by
  cases a with
  | ofNat x => cases b with
    | ofNat y => rw [show bltF (.ofNat x) (.ofNat y) = Nat.blt x y from rfl, natBlt]; congr 1; apply propext; simp
    | negSucc y => rw [show bltF (.ofNat x) (.negSucc y) = false from rfl]; symm; rw [decide_eq_false_iff_not]; simp only [Int.ofNat_eq_natCast]; omega
  | negSucc x => cases b with
    | ofNat y => rw [show bltF (.negSucc x) (.ofNat y) = true from rfl]; symm; rw [decide_eq_true_eq]; simp only [Int.ofNat_eq_natCast]; omega
    | negSucc y => rw [show bltF (.negSucc x) (.negSucc y) = Nat.blt y x from rfl, natBlt]; congr 1; apply propext; omega
theorem beqF_eq (a b : Int) : beqF a b = decide (a = b) := by
  cases a with
  | ofNat x => cases b with
    | ofNat y => rw [show beqF (.ofNat x) (.ofNat y) = Nat.beq x y from rfl, natBeq]; congr 1; apply propext; simp only [Int.ofNat_eq_natCast]; omega
    | negSucc y => rw [show beqF (.ofNat x) (.negSucc y) = false from rfl]; symm; rw [decide_eq_false_iff_not]; simp only [Int.ofNat_eq_natCast]; omega
  | negSucc x => cases b with
    | ofNat y => rw [show beqF (.negSucc x) (.ofNat y) = false from rfl]; symm; rw [decide_eq_false_iff_not]; simp only [Int.ofNat_eq_natCast]; omega
    | negSucc y => rw [show beqF (.negSucc x) (.negSucc y) = Nat.beq x y from rfl, natBeq]; congr 1; apply propext; omega
theorem notF_eq (b : Bool) : notF b = !b := by cases b <;> rfl
theorem minF_eq (a b : Nat) : minF a b = min a b := by
  unfold minF
  rw [natBle]
  by_cases h : a ≤ b
  · simp [h, Nat.min_eq_left h]
  · simp [h]; omega
theorem maxF_eq (a b : Nat) : maxF a b = max a b := by
  unfold maxF
  rw [natBle]
  by_cases h : a ≤ b
  · simp [h, Nat.max_eq_right h]
  · simp [h]; omega
theorem bitsF_eq (k : IntKind) : bitsF k = k.bits := by cases k <;> rfl
theorem modF_eq (k : IntKind) : modF k = 2 ^ k.bits := by cases k <;> rfl
theorem lowF_eq (k : IntKind) (x : Int) : lowF k x = (BitVec.ofInt k.bits x).toNat := by
  rw [BitVec.toNat_ofInt]
  unfold lowF
  rw [modF_eq]
  rfl
theorem topF_eq (k : IntKind) (n : Nat) (h : n < topF k) : k.wrap n = n := by
  rw [← wrapF_eq]
  cases k <;> simp only [topF] at h <;> simp only [wrapF, halfF, modF, show ∀ a b : Int, Int.sub a b = a - b from fun _ _ => rfl, show ∀ a b : Int, Int.add a b = a + b from fun _ _ => rfl, show ∀ a b : Int, Int.emod a b = a % b from fun _ _ => rfl, Int.ofNat_eq_natCast] <;> omega
theorem finF_eq (k : IntKind) (n : Nat) : finF k n = k.wrap n := by
  unfold finF
  rw [natBlt]
  by_cases h : n < topF k
  · simp only [h, decide_true]
    exact (topF_eq k n h).symm
  · simp only [h, decide_false]
    exact wrapF_eq _ _
theorem convF_eq (k : IntKind) (x : Int) : convF k x = k.wrap x := by
  cases x with
  | ofNat n => exact finF_eq k n
  | negSucc n => exact wrapF_eq _ _
theorem addF_eq (k : IntKind) (x y : Int) : addF k x y = k.wrap (x + y) := by
  cases x with
  | ofNat a => cases y with
    | ofNat b => exact finF_eq k _
    | negSucc b => exact wrapF_eq _ _
  | negSucc a => exact wrapF_eq _ _
theorem subF_eq (k : IntKind) (x y : Int) : subF k x y = k.wrap (x - y) := by
  cases x with
  | ofNat a => cases y with
    | ofNat b =>
      show Bool.rec (motive := fun _ => Int) (wrapF k (Int.sub (.ofNat a) (.ofNat b))) (finF k (a - b)) (Nat.ble b a) = _
      rw [natBle]
      by_cases h : b ≤ a
      · simp only [h, decide_true]
        rw [finF_eq]
        congr 1
        simp only [Int.ofNat_eq_natCast]
        omega
      · simp only [h, decide_false]
        exact wrapF_eq _ _
    | negSucc b => exact wrapF_eq _ _
  | negSucc a => exact wrapF_eq _ _
theorem mulF_eq (k : IntKind) (x y : Int) : mulF k x y = k.wrap (x * y) := by
  cases x with
  | ofNat a => cases y with
    | ofNat b => exact finF_eq k _
    | negSucc b => exact wrapF_eq _ _
  | negSucc a => exact wrapF_eq _ _
theorem modN_eq (k : IntKind) : modN k = 2 ^ k.bits := by cases k <;> rfl
theorem lowQ_eq (k : IntKind) (x : Int) : lowQ k x = (BitVec.ofInt k.bits x).toNat := by
  cases x with
  | ofNat a =>
    rw [BitVec.toNat_ofInt]
    show a % modN k = _
    rw [modN_eq]
    rfl
  | negSucc a => exact lowF_eq _ _
theorem shrF_eq (x : Int) (n : Nat) : shrF x n = x.fdiv (2 ^ n) := by
  cases x with
  | ofNat a =>
    show ((a / 2 ^ n : Nat) : Int) = Int.fdiv (a : Int) (2 ^ n)
    rw [Int.fdiv_eq_ediv_of_nonneg _ (by exact Int.le_of_lt (Int.pow_pos (by omega)))]
    rw [Int.natCast_ediv, Int.natCast_pow]
    rfl
  | negSucc a =>
    show Int.fdiv _ _ = _
    rw [show Int.ofNat (Nat.pow 2 n) = (2 : Int) ^ n by rw [Int.ofNat_eq_natCast]; exact Int.natCast_pow 2 n]
theorem binF_eq (op : BinOp) (k : IntKind) (x y : Int) : binF op k x y = binZ op k x y := by
  cases op
  case add => exact addF_eq _ _ _
  case sub => exact subF_eq _ _ _
  case mul => exact mulF_eq _ _ _
  case quo => exact convF_eq _ _
  case rem => rfl
  case and => show finF k _ = _; rw [finF_eq, lowQ_eq, lowQ_eq]; simp only [binZ, BitVec.toNat_and]; rfl
  case or => show finF k _ = _; rw [finF_eq, lowQ_eq, lowQ_eq]; simp only [binZ, BitVec.toNat_or]; rfl
  case xor => show finF k _ = _; rw [finF_eq, lowQ_eq, lowQ_eq]; simp only [binZ, BitVec.toNat_xor]; rfl
  case andNot =>
    show finF k _ = _
    rw [finF_eq, lowQ_eq, lowQ_eq]
    simp only [binZ, BitVec.toNat_and, BitVec.toNat_not, modN_eq]
    rfl
  case shl =>
    show mulF k x (.ofNat (Nat.pow 2 (minF (Int.toNat y) (bitsF k)))) = _
    rw [mulF_eq, minF_eq, bitsF_eq]
    simp only [binZ]
    congr 2
  case shr => show shrF x _ = _; rw [shrF_eq, minF_eq, bitsF_eq]; rfl
  all_goals rfl
theorem cmpF_eq (op : BinOp) (x y : Int) : cmpF op x y = cmpZ op x y := by
  cases op
  case eql => show beqF x y = _; rw [beqF_eq]; rfl
  case neq => show notF (beqF x y) = _; rw [notF_eq, beqF_eq]; rfl
  case lss => show bltF x y = _; rw [bltF_eq]; rfl
  case leq => show notF (bltF y x) = _; rw [notF_eq, bltF_eq, ← decide_not]; simp [cmpZ]
  case gtr => show bltF y x = _; rw [bltF_eq]; rfl
  case geq => show notF (bltF x y) = _; rw [notF_eq, bltF_eq, ← decide_not]; simp [cmpZ]
  all_goals rfl
theorem kindEq_eq (a b : IntKind) : kindEq a b = decide (a = b) := by
  cases a <;> cases b <;> rfl

theorem kindEq_of {a b : IntKind} (h : kindEq a b = true) : a = b := by rw [kindEq_eq] at h; exact of_decide_eq_true h
theorem SI.beq_eq : ∀ (a b : SI), SI.beq a b = true → a = b := by
  intro a
  induction a with
  | lit n => intro b h; cases b <;> simp [SI.beq, beqF_eq, kindEq_eq] at h; rw [h]
  | var i => intro b h; cases b <;> simp [SI.beq, kindEq_eq] at h; rw [h]
  | bin o k a b iha ihb =>
    intro c h
    cases c <;> simp [SI.beq, kindEq_eq] at h
    obtain ⟨rfl, rfl, h1, h2⟩ := h
    rw [iha _ h1, ihb _ h2]
  | conv k a ih =>
    intro c h
    cases c <;> simp [SI.beq, kindEq_eq] at h
    obtain ⟨rfl, h1⟩ := h
    rw [ih _ h1]
  | fold a ih =>
    intro c h
    cases c <;> simp [SI.beq, kindEq_eq] at h
    rw [ih _ h]
  | rs a p o n iho ihn =>
    intro c h
    cases c <;> simp [SI.beq, kindEq_eq] at h
    obtain ⟨rfl, rfl, h1, h2⟩ := h
    rw [iho _ h1, ihn _ h2]
theorem SB.beq_eq : ∀ (a b : SB), SB.beq a b = true → a = b := by
  intro a
  induction a with
  | lit n => intro b h; cases b <;> simp [SB.beq] at h; rw [h]
  | cmp o a b =>
    intro c h
    cases c <;> simp [SB.beq] at h
    obtain ⟨rfl, h1, h2⟩ := h
    rw [SI.beq_eq _ _ h1, SI.beq_eq _ _ h2]
  | not a ih =>
    intro c h
    cases c <;> simp [SB.beq] at h
    rw [ih _ h]

theorem leF_eq (a b : Int) : leF a b = decide (a ≤ b) := by
  unfold leF
  rw [notF_eq, bltF_eq]
  by_cases h : b < a
  · rw [decide_eq_true h, decide_eq_false (by omega)]; rfl
  · rw [decide_eq_false h, decide_eq_true (by omega)]; rfl
theorem wrap_rng (k : IntKind) (n : Int) : minK k ≤ k.wrap n ∧ k.wrap n ≤ maxK k := by
  rw [← wrapF_eq]
  cases k <;> simp only [wrapF, halfF, modF, minK, maxK, show ∀ a b : Int, Int.sub a b = a - b from fun _ _ => rfl, show ∀ a b : Int, Int.add a b = a + b from fun _ _ => rfl, show ∀ a b : Int, Int.emod a b = a % b from fun _ _ => rfl, Int.ofNat_eq_natCast, Int.negSucc_eq] <;> omega
theorem wrap_in {k : IntKind} {n : Int} (h : minK k ≤ n ∧ n ≤ maxK k) : k.wrap n = n := by
  rw [← wrapF_eq]
  revert h
  cases k <;> simp only [wrapF, halfF, modF, minK, maxK, show ∀ a b : Int, Int.sub a b = a - b from fun _ _ => rfl, show ∀ a b : Int, Int.add a b = a + b from fun _ _ => rfl, show ∀ a b : Int, Int.emod a b = a % b from fun _ _ => rfl, Int.ofNat_eq_natCast, Int.negSucc_eq] <;> omega
/-! bits of one number -/
theorem wrap_sub {k k' : IntKind} (h : subKd k' k = true) (n : Int) : k.wrap (k'.wrap n) = k'.wrap n := by
  unfold subKd at h
  simp only [Bool.and_eq_true, leF_eq, decide_eq_true_eq] at h
  have := wrap_rng k' n
  exact wrap_in ⟨by omega, by omega⟩
theorem wrap_narrow {k k' : IntKind} (h : Nat.ble (bitsF k) (bitsF k') = true) (n : Int) : k.wrap (k'.wrap n) = k.wrap n := by
  rw [natBle, decide_eq_true_eq] at h
  simp only [← wrapF_eq]
  revert h
  cases k <;> cases k' <;> simp only [bitsF] <;> intro h <;> first | (exfalso; revert h; decide) | (simp only [wrapF, halfF, modF, show ∀ a b : Int, Int.sub a b = a - b from fun _ _ => rfl, show ∀ a b : Int, Int.add a b = a + b from fun _ _ => rfl, show ∀ a b : Int, Int.emod a b = a % b from fun _ _ => rfl, Int.ofNat_eq_natCast] <;> omega)
theorem convC_spec {α : Type} (k : IntKind) (a : SI) (κ : SI → α) : ∃ e, convC k a κ = κ e ∧ ∀ ρ, e.ev ρ = k.wrap (a.ev ρ) := by
  unfold convC
  split
  · rename_i k' y
    cases h1 : subKd k' k with
    | true => exact ⟨_, rfl, fun ρ => (wrap_sub h1 _).symm⟩
    | false =>
      cases h2 : Nat.ble (bitsF k) (bitsF k') with
      | true => exact ⟨_, rfl, fun ρ => (wrap_narrow h2 _).symm⟩
      | false => exact ⟨_, rfl, fun ρ => rfl⟩
  · exact ⟨_, rfl, fun ρ => rfl⟩
theorem wrap_uns {k : IntKind} (h : isUns k = true) (n : Int) : k.wrap n = n % 2 ^ bitsF k := by
  rw [← wrapF_eq]
  cases k <;> first | (cases h; done) | (simp only [wrapF, halfF, modF, bitsF, show ∀ a b : Int, Int.sub a b = a - b from fun _ _ => rfl, show ∀ a b : Int, Int.add a b = a + b from fun _ _ => rfl, show ∀ a b : Int, Int.emod a b = a % b from fun _ _ => rfl, Int.ofNat_eq_natCast] <;> omega)
theorem shr_div {k : IntKind} {x : Int} {s : Nat} (h : s ≤ k.bits) : binZ .shr k x (Int.ofNat s) = x / 2 ^ s := by
  show Int.fdiv x (2 ^ (min (Int.ofNat s).toNat k.bits)) = _
  rw [show (Int.ofNat s).toNat = s from rfl, Nat.min_eq_left h]
  exact Int.fdiv_eq_ediv_of_nonneg _ (Int.le_of_lt (Int.pow_pos (by omega)))
def BitsAt (e x : SI) (lo n : Nat) : Prop := ∀ ρ, e.ev ρ = (x.ev ρ / 2 ^ lo) % 2 ^ n
theorem wrap_bits {k : IntKind} {z : Int} {lo n : Nat} (h : lo + n ≤ k.bits) : (k.wrap z / 2 ^ lo) % 2 ^ n = (z / 2 ^ lo) % 2 ^ n := by
  have key : ∃ c : Int, k.wrap z = z + c * 2 ^ k.bits := by
    unfold IntKind.wrap
    have hd := Int.mul_ediv_add_emod z (2 ^ k.bits)
    simp only
    split
    · exact ⟨-(z / 2 ^ k.bits) - 1, by rw [Int.sub_mul, Int.neg_mul, Int.mul_comm (z / 2 ^ k.bits)]; omega⟩
    · exact ⟨-(z / 2 ^ k.bits), by rw [Int.neg_mul, Int.mul_comm (z / 2 ^ k.bits)]; omega⟩
  obtain ⟨c, hc⟩ := key
  rw [hc]
  have hp : (2 : Int) ^ k.bits = 2 ^ (k.bits - lo - n) * 2 ^ n * 2 ^ lo := by
    rw [← Int.pow_add, ← Int.pow_add]
    congr 1
    omega
  rw [hp, ← Int.mul_assoc, Int.add_mul_ediv_right _ _ (show (2 : Int) ^ lo ≠ 0 by have : (0 : Int) < 2 ^ lo := Int.pow_pos (by omega); omega), ← Int.mul_assoc, Int.add_mul_emod_self_right]
theorem bitsB_spec {α : Type} {x : SI} {lo n : Nat} {κ : SI → Nat → Nat → α} : ∃ y, bitsB x lo n κ = κ y lo n ∧ ∀ ρ, (x.ev ρ / 2 ^ lo) % 2 ^ n = (y.ev ρ / 2 ^ lo) % 2 ^ n := by
  unfold bitsB
  split
  · rename_i k z
    cases hb : Nat.ble (Nat.add lo n) (bitsF k) with
    | false => exact ⟨_, rfl, fun _ => rfl⟩
    | true =>
      rw [natBle, decide_eq_true_eq, bitsF_eq] at hb
      exact ⟨_, rfl, fun ρ => wrap_bits hb⟩
  · exact ⟨_, rfl, fun _ => rfl⟩
theorem bits1_spec {α : Type} {k : IntKind} {y : SI} {no : α} {κ : SI → Nat → Nat → α} : bits1 k y no κ = no ∨ ∃ x lo n, bits1 k y no κ = κ x lo n ∧ BitsAt (.conv k y) x lo n := by
  unfold bits1
  cases hk : isUns k with
  | false => exact .inl rfl
  | true =>
    right
    have plain : ∀ y : SI, BitsAt (.conv k y) y 0 (bitsF k) := fun y ρ => by
      show k.wrap (y.ev ρ) = _
      rw [wrap_uns hk]
      simp
    split
    · rename_i k2 x s
      cases hs : Nat.blt s (bitsF k2) with
      | false =>
        obtain ⟨z, h1, h2⟩ := bitsB_spec (x := .bin .shr k2 x (.lit (.ofNat s))) (lo := 0) (n := bitsF k) (κ := κ)
        exact ⟨z, _, _, h1, fun ρ => (plain _ ρ).trans (h2 ρ)⟩
      | true =>
        rw [natBlt, decide_eq_true_eq, bitsF_eq] at hs
        obtain ⟨z, h1, h2⟩ := bitsB_spec (x := x) (lo := s) (n := bitsF k) (κ := κ)
        refine ⟨z, _, _, h1, fun ρ => ?_⟩
        rw [← h2]
        show k.wrap (binZ .shr k2 (x.ev ρ) (Int.ofNat s)) = _
        rw [wrap_uns hk, shr_div (Nat.le_of_lt hs)]
    · obtain ⟨z, h1, h2⟩ := bitsB_spec (x := y) (lo := 0) (n := bitsF k) (κ := κ)
      exact ⟨z, _, _, h1, fun ρ => (plain _ ρ).trans (h2 ρ)⟩
theorem emod_split (q : Int) (m n : Nat) : q % 2 ^ (n + m) = 2 ^ m * ((q / 2 ^ m) % 2 ^ n) + q % 2 ^ m := by
  have h1 := Int.mul_ediv_add_emod q (2 ^ m)
  have h2 := Int.mul_ediv_add_emod (q / 2 ^ m) (2 ^ n)
  have p1 : (0 : Int) < 2 ^ m := Int.pow_pos (by omega)
  have p2 : (0 : Int) < 2 ^ n := Int.pow_pos (by omega)
  have a1 := Int.emod_nonneg q (show (2 : Int) ^ m ≠ 0 by omega)
  have a2 := Int.emod_lt_of_pos q p1
  have b1 := Int.emod_nonneg (q / 2 ^ m) (show (2 : Int) ^ n ≠ 0 by omega)
  have b2 := Int.emod_lt_of_pos (q / 2 ^ m) p2
  generalize q % 2 ^ m = r at *
  generalize (q / 2 ^ m) % 2 ^ n = s at *
  generalize q / 2 ^ m = u at *
  generalize u / 2 ^ n = v at *
  have hq : q = 2 ^ (n + m) * v + (2 ^ m * s + r) := by
    rw [← h1, ← h2, Int.pow_add, Int.mul_add, Int.add_assoc, ← Int.mul_assoc, Int.mul_comm (2 ^ m) (2 ^ n)]
  have hlt : 2 ^ m * s + r < 2 ^ (n + m) := by
    have : (2 : Int) ^ m * s ≤ 2 ^ m * (2 ^ n - 1) := Int.mul_le_mul_of_nonneg_left (by omega) (by omega)
    rw [Int.mul_sub, Int.mul_one] at this
    rw [Int.pow_add, Int.mul_comm (2 ^ n)]
    omega
  have h0 : 0 ≤ (2 : Int) ^ m * s := Int.mul_nonneg (by omega) b1
  rw [hq, Int.add_comm, Int.add_mul_emod_self_left, Int.emod_eq_of_lt (by omega) hlt]
theorem wide32_bits {k : IntKind} (h : wide32 k = true) : 32 ≤ k.bits ∧ minK k ≤ 0 ∧ 4294967295 ≤ maxK k := by
  cases k <;> first | (cases h; done) | (simp [IntKind.bits, minK, maxK])
theorem or_low {k : IntKind} (hk : wide32 k = true) {a b : Int} {n m : Nat} (ha : 0 ≤ a) (ha' : a < 2 ^ n) (hb : 0 ≤ b) (hb' : b < 2 ^ m) (hnm : n + m ≤ 32) : binZ .or k (binZ .shl k a (Int.ofNat m)) b = 2 ^ m * a + b := by
  obtain ⟨w1, w2, w3⟩ := wide32_bits hk
  obtain ⟨a, rfl⟩ := Int.eq_ofNat_of_zero_le ha
  obtain ⟨b, rfl⟩ := Int.eq_ofNat_of_zero_le hb
  have ea : a < 2 ^ n := by exact_mod_cast ha'
  have eb : b < 2 ^ m := by exact_mod_cast hb'
  have hlt : 2 ^ m * a + b < 2 ^ 32 := by
    have h1 : 2 ^ m * a + b < 2 ^ m * a + 2 ^ m := by omega
    have h2 : 2 ^ m * a + 2 ^ m ≤ 2 ^ m * 2 ^ n := by
      rw [show 2 ^ m * a + 2 ^ m = 2 ^ m * (a + 1) by rw [Nat.mul_add, Nat.mul_one]]
      exact Nat.mul_le_mul_left _ (by omega)
    have h3 : 2 ^ m * 2 ^ n ≤ 2 ^ 32 := by
      rw [← Nat.pow_add]
      exact Nat.pow_le_pow_right (by omega) (by omega)
    omega
  have hlt' : 2 ^ m * a < 2 ^ 32 := by omega
  have hw : ∀ c : Nat, c < 2 ^ 32 → k.wrap (c : Int) = c := fun c hc => wrap_in ⟨by omega, by omega⟩
  have hz : ∀ c : Nat, c < 2 ^ 32 → (BitVec.ofInt k.bits (c : Int)).toNat = c := fun c hc => by
    rw [BitVec.toNat_ofInt]
    have : c < 2 ^ k.bits := Nat.lt_of_lt_of_le hc (Nat.pow_le_pow_right (by omega) w1)
    rw [Int.emod_eq_of_lt (by omega) (by exact_mod_cast this)]
    rfl
  have hs : binZ .shl k (a : Int) (Int.ofNat m) = ((2 ^ m * a : Nat) : Int) := by
    show k.wrap ((a : Int) * 2 ^ (min (Int.ofNat m).toNat k.bits)) = _
    rw [show (Int.ofNat m).toNat = m from rfl, Nat.min_eq_left (by omega)]
    rw [show (a : Int) * 2 ^ m = ((2 ^ m * a : Nat) : Int) by rw [Nat.mul_comm]; simp]
    exact hw _ hlt'
  rw [hs]
  show k.wrap ((BitVec.ofInt k.bits ((2 ^ m * a : Nat) : Int) ||| BitVec.ofInt k.bits (b : Int)).toNat : Int) = _
  rw [BitVec.toNat_or, hz _ hlt', hz _ (by omega), ← Nat.two_pow_add_eq_or_of_lt eb, hw _ hlt]
  simp
theorem bits2_spec {α : Type} {x y : SI} {lo n lo' n' s : Nat} {no : α} {κ : SI → Nat → Nat → α} : bits2 x y lo n lo' n' s no κ = no ∨ (bits2 x y lo n lo' n' s no κ = κ y lo' (n + n') ∧ x = y ∧ lo = lo' + n' ∧ s = n' ∧ n + n' ≤ 32) := by
  unfold bits2
  rw [forceN_eq]
  cases h : (SI.beq x y && (Nat.beq lo (Nat.add lo' n') && (Nat.beq s n' && Nat.ble (Nat.add n n') (nat_lit 32)))) with
  | false => exact .inl rfl
  | true =>
    simp only [Bool.and_eq_true, natBeq, natBle, decide_eq_true_eq] at h
    exact .inr ⟨rfl, SI.beq_eq _ _ h.1, h.2.1, h.2.2.1, h.2.2.2⟩
theorem shlOf_some {a : SI} {p : IntKind × SI × Nat} (h : shlOf a = some p) : a = .bin .shl p.1 p.2.1 (.lit (.ofNat p.2.2)) := by
  unfold shlOf at h
  split at h
  · cases h; rfl
  · cases h
theorem bitsOf_spec {α : Type} : ∀ (f : Nat) (e : SI) (no : α) (κ : SI → Nat → Nat → α), bitsOf f e no κ = no ∨ ∃ x lo n, bitsOf f e no κ = κ x lo n ∧ BitsAt e x lo n
  | 0, e, no, κ => .inl rfl
  | f + 1, e, no, κ => by
    cases e with
    | conv k y => exact bits1_spec
    | bin o k a b =>
      cases o
      case or =>
        show (match shlOf a with
          | some p => Bool.rec (motive := fun _ => α) no (bitsOf f p.2.1 no fun x lo n => bitsOf f b no fun y lo' n' => bits2 x y lo n lo' n' p.2.2 no κ) (wide32 k && kindEq k p.1)
          | none => no) = no ∨ ∃ x lo n, (match shlOf a with
          | some p => Bool.rec (motive := fun _ => α) no (bitsOf f p.2.1 no fun x lo n => bitsOf f b no fun y lo' n' => bits2 x y lo n lo' n' p.2.2 no κ) (wide32 k && kindEq k p.1)
          | none => no) = κ x lo n ∧ BitsAt (.bin .or k a b) x lo n
        cases hs : shlOf a with
        | none => exact .inl rfl
        | some p =>
          have ha := shlOf_some hs
          obtain ⟨k2, A, s⟩ := p
          simp only at ha
          subst ha
          cases hb : (wide32 k && kindEq k k2) with
          | false => exact .inl (by simp only [hb])
          | true =>
            simp only [hb]
            simp only [Bool.and_eq_true] at hb
            have hk := kindEq_of hb.2
            subst hk
            rcases bitsOf_spec f A no (fun x lo n => bitsOf f b no fun y lo' n' => bits2 x y lo n lo' n' s no κ) with h | ⟨x, lo, n, h, hx⟩
            · exact .inl h
            rw [h]
            rcases bitsOf_spec f b no (fun y lo' n' => bits2 x y lo n lo' n' s no κ) with h | ⟨y, lo', n', h, hy⟩
            · exact .inl h
            rw [h]
            rcases bits2_spec (x := x) (y := y) (lo := lo) (n := n) (lo' := lo') (n' := n') (s := s) (no := no) (κ := κ) with h | ⟨h, rfl, rfl, rfl, hle⟩
            · exact .inl h
            refine .inr ⟨_, _, _, h, fun ρ => ?_⟩
            show binZ .or k (binZ .shl k (A.ev ρ) (Int.ofNat s)) (b.ev ρ) = _
            rw [hx ρ, hy ρ]
            have p1 : (0 : Int) < 2 ^ n := Int.pow_pos (by omega)
            have p2 : (0 : Int) < 2 ^ s := Int.pow_pos (by omega)
            have p3 : (0 : Int) < 2 ^ lo' := Int.pow_pos (by omega)
            rw [or_low hb.1 (n := n) (m := s) (Int.emod_nonneg _ (by omega)) (Int.emod_lt_of_pos _ p1) (Int.emod_nonneg _ (by omega)) (Int.emod_lt_of_pos _ p2) hle, emod_split, Int.pow_add, Int.ediv_ediv_of_nonneg (by omega)]
      all_goals exact .inl rfl
    | _ => exact .inl rfl
theorem canon_spec {α : Type} {k : IntKind} (hk : isUns k = true) {x : SI} {lo : Nat} {κ : SI → α} (hlo : lo < 64) : ∃ e, canon k x lo κ = κ e ∧ ∀ ρ, e.ev ρ = (x.ev ρ / 2 ^ lo) % 2 ^ bitsF k := by
  unfold canon
  cases h0 : Nat.beq lo (nat_lit 0) with
  | true =>
    rw [natBeq, decide_eq_true_eq] at h0
    have h0 : lo = 0 := h0
    subst h0
    obtain ⟨e, h1, h2⟩ := convC_spec k x κ
    refine ⟨e, h1, fun ρ => ?_⟩
    rw [h2, wrap_uns hk]
    simp
  | false =>
    cases h1 : Nat.blt lo (nat_lit 32) with
    | true =>
      rw [natBlt, decide_eq_true_eq] at h1
      refine ⟨_, rfl, fun ρ => ?_⟩
      show k.wrap (binZ .shr .u32 (x.ev ρ) (Int.ofNat lo)) = _
      rw [wrap_uns hk, shr_div (show lo ≤ 32 from Nat.le_of_lt h1)]
    | false =>
      refine ⟨_, rfl, fun ρ => ?_⟩
      show k.wrap (binZ .shr .i64 (x.ev ρ) (Int.ofNat lo)) = _
      rw [wrap_uns hk, shr_div (show lo ≤ 64 by omega)]
theorem orW_spec {α : Type} {e x : SI} {lo n : Nat} {κ : SI → α} (hb : BitsAt e x lo n) : ∃ u, orW e κ x lo n = κ u ∧ ∀ ρ, u.ev ρ = e.ev ρ := by
  unfold orW
  cases h1 : (Nat.beq n (nat_lit 16) && Nat.blt lo (nat_lit 64)) with
  | true =>
    simp only [Bool.and_eq_true, natBeq, natBlt, decide_eq_true_eq] at h1
    obtain ⟨u, h2, h3⟩ := canon_spec (k := .u16) rfl (x := x) (κ := κ) h1.2
    refine ⟨u, h2, fun ρ => ?_⟩
    rw [h3, hb ρ, h1.1]
    rfl
  | false =>
    cases h2 : (Nat.beq n (nat_lit 32) && Nat.blt lo (nat_lit 64)) with
    | true =>
      simp only [Bool.and_eq_true, natBeq, natBlt, decide_eq_true_eq] at h2
      obtain ⟨u, h3, h4⟩ := canon_spec (k := .u32) rfl (x := x) (κ := κ) h2.2
      refine ⟨u, h3, fun ρ => ?_⟩
      rw [h4, hb ρ, h2.1]
      rfl
    | false => exact ⟨_, rfl, fun _ => rfl⟩
theorem wrap_low (k : IntKind) (y : Int) : k.wrap ((BitVec.ofInt k.bits y).toNat : Int) = k.wrap y := by
  rw [← lowF_eq, ← wrapF_eq, ← wrapF_eq]
  cases k <;> simp only [lowF, wrapF, halfF, modF, show ∀ a b : Int, Int.sub a b = a - b from fun _ _ => rfl, show ∀ a b : Int, Int.add a b = a + b from fun _ _ => rfl, show ∀ a b : Int, Int.emod a b = a % b from fun _ _ => rfl, Int.ofNat_eq_natCast] <;> omega
theorem or_zero_left (k : IntKind) (y : Int) : binZ .or k 0 y = k.wrap y := by
  show k.wrap ((BitVec.ofInt k.bits 0 ||| BitVec.ofInt k.bits y).toNat : Int) = _
  rw [show BitVec.ofInt k.bits 0 = 0#k.bits from by simp, BitVec.zero_or]
  exact wrap_low k y
theorem or_zero_right (k : IntKind) (y : Int) : binZ .or k y 0 = k.wrap y := by
  show k.wrap ((BitVec.ofInt k.bits y ||| BitVec.ofInt k.bits 0).toNat : Int) = _
  rw [show BitVec.ofInt k.bits 0 = 0#k.bits from by simp, BitVec.or_zero]
  exact wrap_low k y
theorem orS_spec {α : Type} (k : IntKind) (a b : SI) (κ : SI → α) : ∃ e, orS k a b κ = κ e ∧ ∀ ρ, e.ev ρ = binZ .or k (a.ev ρ) (b.ev ρ) := by
  unfold orS
  split
  · obtain ⟨e, h1, h2⟩ := convC_spec k b κ
    exact ⟨e, h1, fun ρ => by rw [h2]; exact (or_zero_left k _).symm⟩
  · split
    · obtain ⟨e, h1, h2⟩ := convC_spec k a κ
      exact ⟨e, h1, fun ρ => by rw [h2]; exact (or_zero_right k _).symm⟩
    · rcases bitsOf_spec 6 (.bin .or k a b) (κ (.bin .or k a b)) (orW (.bin .or k a b) κ) with h | ⟨x, lo, n, h, hx⟩
      · exact ⟨_, h, fun _ => rfl⟩
      · obtain ⟨u, h1, h2⟩ := orW_spec (κ := κ) hx
        exact ⟨u, h.trans h1, h2⟩

theorem wrap_add (k : IntKind) (m n : Int) : k.wrap (k.wrap m + n) = k.wrap (m + n) := by
  simp only [← wrapF_eq]
  cases k <;> simp only [wrapF, halfF, modF, show ∀ a b : Int, Int.sub a b = a - b from fun _ _ => rfl, show ∀ a b : Int, Int.add a b = a + b from fun _ _ => rfl, show ∀ a b : Int, Int.emod a b = a % b from fun _ _ => rfl, Int.ofNat_eq_natCast] <;> omega
theorem lin_spec (k : IntKind) (a : SI) (ρ : Nat → Int) : (linX k a = a ∧ linC k a = 0) ∨ a.ev ρ = k.wrap ((linX k a).ev ρ + linC k a) := by
  unfold linX linC
  split
  · rename_i k' x c
    by_cases h : k = k'
    · subst h
      right
      simp [SI.ev, binZ, kindEq_eq]
    · left
      simp [h, kindEq_eq]
  · left
    exact ⟨rfl, rfl⟩
theorem lin_wrap (k : IntKind) (a : SI) (ρ : Nat → Int) (n : Int) : k.wrap (a.ev ρ + n) = k.wrap ((linX k a).ev ρ + (linC k a + n)) := by
  rcases lin_spec k a ρ with ⟨h1, h2⟩ | h
  · rw [h1, h2]; congr 1; omega
  · rw [h, wrap_add]; congr 1; omega
theorem addC_spec {α : Type} (k : IntKind) (a : SI) (c : Int) (κ : SI → α) : ∃ e, addC k a c κ = κ e ∧ ∀ ρ, e.ev ρ = k.wrap (a.ev ρ + c) := by
  unfold addC
  rw [forceI_eq]
  refine ⟨_, rfl, fun ρ => ?_⟩
  simp only [SI.ev, binZ, wrapF_eq]
  rw [lin_wrap k a ρ c, show (linX k a).ev ρ + k.wrap ((linC k a).add c) = k.wrap ((linC k a).add c) + (linX k a).ev ρ from Int.add_comm _ _, wrap_add]
  congr 1
  show linC k a + c + _ = _
  omega
theorem subS_spec {α : Type} (k : IntKind) (a b : SI) (κ : SI → α) : ∃ e, subS k a b κ = κ e ∧ ∀ ρ, e.ev ρ = k.wrap (a.ev ρ - b.ev ρ) := by
  unfold subS
  cases h : SI.beq (linX k a) (linX k b) with
  | false => exact ⟨_, rfl, fun _ => rfl⟩
  | true =>
    simp only [forceI_eq]
    refine ⟨_, rfl, fun ρ => ?_⟩
    have hx := SI.beq_eq _ _ h
    simp only [SI.ev, wrapF_eq]
    rw [show a.ev ρ - b.ev ρ = a.ev ρ + (- b.ev ρ) by omega, lin_wrap, hx]
    rcases lin_spec k b ρ with ⟨h1, h2⟩ | h
    · rw [h1, h2]
      congr 1
      show linC k a - 0 = _
      omega
    · rw [h]
      have key : ∀ m n : Int, k.wrap (n - k.wrap m) = k.wrap (n - m) := by
        intro m n
        simp only [← wrapF_eq]
        cases k <;> simp only [wrapF, halfF, modF, show ∀ a b : Int, Int.sub a b = a - b from fun _ _ => rfl, show ∀ a b : Int, Int.add a b = a + b from fun _ _ => rfl, show ∀ a b : Int, Int.emod a b = a % b from fun _ _ => rfl, Int.ofNat_eq_natCast] <;> omega
      rw [show ∀ x y z : Int, x + (y + -z) = (x + y) - z from fun x y z => by omega, key]
      congr 1
      show linC k a - linC k b = _
      omega
theorem binS_spec {α : Type} (op : BinOp) (k : IntKind) (a b : SI) (κ : SI → α) : ∃ e, binS op k a b κ = κ e ∧ ∀ ρ, e.ev ρ = binZ op k (a.ev ρ) (b.ev ρ) := by
  unfold binS
  split
  · exact orS_spec k a b κ
  · split
    · refine ⟨_, rfl, fun ρ => ?_⟩
      exact (show a.ev ρ = binZ .shr k (a.ev ρ) (Int.ofNat 0) by rw [shr_div (Nat.zero_le _)]; simp)
    · exact ⟨_, rfl, fun _ => rfl⟩
  · split
    · exact addC_spec k a _ κ
    · split
      · obtain ⟨e, h1, h2⟩ := addC_spec k _ _ κ
        exact ⟨e, h1, fun ρ => by rw [h2, Int.add_comm]; rfl⟩
      · exact ⟨_, rfl, fun _ => rfl⟩
  · split
    · rename_i y
      obtain ⟨e, h1, h2⟩ := addC_spec k a (Int.neg y) κ
      exact ⟨e, h1, fun ρ => by rw [h2]; rfl⟩
    · exact subS_spec k a b κ
  · exact ⟨_, rfl, fun _ => rfl⟩
section
variable {α : Type} {ρ : Nat → Int}
theorem binK_spec (op : BinOp) (k : IntKind) (a b : SI) (κ : SI → α) : ∃ e, binK op k a b κ = κ e ∧ ∀ ρ, e.ev ρ = binZ op k (a.ev ρ) (b.ev ρ) := by
  cases a with
  | lit x =>
    cases b with
    | lit y =>
      show ∃ e, forceI (binF op k x y) (fun n => κ (.lit n)) = κ e ∧ _
      rw [forceI_eq]; exact ⟨_, rfl, fun ρ => binF_eq _ _ _ _⟩
    | var i => exact binS_spec op k (.lit x) (.var i) κ
    | bin o k' u v => exact binS_spec op k (.lit x) (.bin o k' u v) κ
    | conv k' u => exact binS_spec op k (.lit x) (.conv k' u) κ
    | fold u => exact binS_spec op k (.lit x) (.fold u) κ
    | rs u v o n => exact binS_spec op k (.lit x) (.rs u v o n) κ
  | var i => exact binS_spec op k (.var i) b κ
  | bin o k' u v => exact binS_spec op k (.bin o k' u v) b κ
  | conv k' u => exact binS_spec op k (.conv k' u) b κ
  | fold u => exact binS_spec op k (.fold u) b κ
  | rs u v o n => exact binS_spec op k (.rs u v o n) b κ
theorem convK_spec (k : IntKind) (a : SI) (κ : SI → α) : ∃ e, convK k a κ = κ e ∧ ∀ ρ, e.ev ρ = k.wrap (a.ev ρ) := by
  cases a with
  | lit x =>
    show ∃ e, forceI (convF k x) (fun n => κ (.lit n)) = κ e ∧ _
    rw [forceI_eq]; exact ⟨_, rfl, fun ρ => convF_eq _ _⟩
  | conv k' y => exact convC_spec k (.conv k' y) κ
  | _ => exact ⟨_, rfl, fun _ => rfl⟩
theorem cmpG_spec (op : BinOp) (a b : SI) (κ : SB → α) : ∃ e, cmpG op a b κ = κ e ∧ ∀ ρ, e.ev ρ = cmpZ op (a.ev ρ) (b.ev ρ) := by
  unfold cmpG
  cases h : SI.beq a b with
  | false => exact ⟨_, rfl, fun _ => rfl⟩
  | true =>
    simp only [forceB_eq]
    refine ⟨_, rfl, fun ρ => ?_⟩
    rw [SI.beq_eq _ _ h]
    simp only [SB.ev, cmpF_eq]
    cases op <;> simp [cmpZ]
theorem cmpK_spec (op : BinOp) (a b : SI) (κ : SB → α) : ∃ e, cmpK op a b κ = κ e ∧ ∀ ρ, e.ev ρ = cmpZ op (a.ev ρ) (b.ev ρ) := by
  cases a with
  | lit x =>
    cases b with
    | lit y =>
      show ∃ e, forceB (cmpF op x y) (fun c => κ (.lit c)) = κ e ∧ _
      rw [forceB_eq]; exact ⟨_, rfl, fun ρ => cmpF_eq _ _ _⟩
    | _ => exact ⟨_, rfl, fun _ => rfl⟩
  | var i => exact cmpG_spec op (.var i) b κ
  | bin o k' u v => exact cmpG_spec op (.bin o k' u v) b κ
  | conv k' u => exact cmpG_spec op (.conv k' u) b κ
  | fold u => exact cmpG_spec op (.fold u) b κ
  | rs u v o n => exact cmpG_spec op (.rs u v o n) b κ
theorem notK_spec (a : SB) (κ : SB → α) : ∃ e, notK a κ = κ e ∧ ∀ ρ, e.ev ρ = !(a.ev ρ) := by
  cases a with
  | lit b => exact ⟨_, rfl, fun ρ => notF_eq _⟩
  | _ => exact ⟨_, rfl, fun _ => rfl⟩
end

/-! values -/
section
variable {φ φ' : List Pl} {ρ : Nat → Int}
theorem pl_mono (h : φ <+: φ') {id : Nat} {p : Pl} (hp : φ[id]? = some p) : φ'[id]? = some p := by
  obtain ⟨t, rfl⟩ := h
  exact List.getElem?_append_left (List.getElem?_eq_some_iff.1 hp).1 ▸ hp
mutual
theorem conc_mono (h : φ <+: φ') : ∀ (v : AV) (x : Value), conc φ ρ v = some x → conc φ' ρ v = some x
  | .int k e, x, hx => by simpa [conc] using hx
  | .bool b, x, hx => by simpa [conc] using hx
  | .ptr id off, x, hx => by
    simp only [conc, Option.map_eq_some_iff] at hx ⊢
    obtain ⟨p, hp, hx⟩ := hx
    exact ⟨p, pl_mono h hp, hx⟩
  | .sl id off len cap, x, hx => by
    simp only [conc, Option.map_eq_some_iff] at hx ⊢
    obtain ⟨p, hp, hx⟩ := hx
    exact ⟨p, pl_mono h hp, hx⟩
  | .emp id a b, x, hx => by
    simp only [conc, Option.map_eq_some_iff] at hx ⊢
    obtain ⟨p, hp, hx⟩ := hx
    exact ⟨p, pl_mono h hp, hx⟩
  | .map id, x, hx => by
    simp only [conc, Option.map_eq_some_iff] at hx ⊢
    obtain ⟨p, hp, hx⟩ := hx
    exact ⟨p, pl_mono h hp, hx⟩
  | .fn f a b, x, hx => by
    simp only [conc, Option.bind_eq_some_iff, Option.map_eq_some_iff] at hx ⊢
    obtain ⟨u, hu, w, hw, hx⟩ := hx
    exact ⟨u, concL_mono h a u hu, w, concL_mono h b w hw, hx⟩
  | .iface t v, x, hx => by
    simp only [conc, Option.map_eq_some_iff] at hx ⊢
    obtain ⟨p, hp, hx⟩ := hx
    exact ⟨p, conc_mono h v p hp, hx⟩
  | .agg l, x, hx => by
    simp only [conc, Option.map_eq_some_iff] at hx ⊢
    obtain ⟨p, hp, hx⟩ := hx
    exact ⟨p, concL_mono h l p hp, hx⟩
  | .tup l, x, hx => by
    simp only [conc, Option.map_eq_some_iff] at hx ⊢
    obtain ⟨p, hp, hx⟩ := hx
    exact ⟨p, concL_mono h l p hp, hx⟩
  | .raw v, x, hx => by simpa [conc] using hx
  | .opq v, x, hx => by simpa [conc] using hx
  | .osl p k c, x, hx => by simpa [conc] using hx
  | .dfr f a r, x, hx => by simpa [conc] using hx
  | .em0 id a b, x, hx => by
    simp only [conc, Option.map_eq_some_iff] at hx ⊢
    obtain ⟨p, hp, hx⟩ := hx
    exact ⟨p, pl_mono h hp, hx⟩
  | .ssl id a b c d, x, hx => by
    simp only [conc, Option.map_eq_some_iff] at hx ⊢
    obtain ⟨p, hp, hx⟩ := hx
    exact ⟨p, pl_mono h hp, hx⟩
  | .fsl a b c d, x, hx => by simpa only [conc] using hx
theorem concL_mono (h : φ <+: φ') : ∀ (v : List AV) (x : List Value), concL φ ρ v = some x → concL φ' ρ v = some x
  | [], x, hx => by simpa [concL] using hx
  | v :: l, x, hx => by
    simp only [concL, Option.bind_eq_some_iff, Option.map_eq_some_iff] at hx ⊢
    obtain ⟨u, hu, w, hw, hx⟩ := hx
    exact ⟨u, conc_mono h v u hu, w, concL_mono h l w hw, hx⟩
end

theorem concL_cons {v : AV} {l : List AV} {xs : List Value} : concL φ ρ (v :: l) = some xs ↔ ∃ x ys, conc φ ρ v = some x ∧ concL φ ρ l = some ys ∧ xs = x :: ys := by
  simp only [concL, Option.bind_eq_some_iff, Option.map_eq_some_iff]
  constructor
  · rintro ⟨a, h1, b, h2, rfl⟩; exact ⟨a, b, h1, h2, rfl⟩
  · rintro ⟨a, b, h1, h2, rfl⟩; exact ⟨a, h1, b, h2, rfl⟩
theorem concL_length : ∀ {l : List AV} {xs : List Value}, concL φ ρ l = some xs → xs.length = l.length
  | [], xs, h => by simp [concL] at h; simp [← h]
  | v :: l, xs, h => by
    obtain ⟨x, ys, _, h2, rfl⟩ := concL_cons.1 h
    simp [concL_length h2]
theorem concL_append : ∀ {l m : List AV} {xs : List Value}, concL φ ρ (l ++ m) = some xs ↔ ∃ ys zs, concL φ ρ l = some ys ∧ concL φ ρ m = some zs ∧ xs = ys ++ zs
  | [], m, xs => by simp [concL]
  | v :: l, m, xs => by
    rw [List.cons_append, concL_cons]
    constructor
    · rintro ⟨x, ys, h1, h2, rfl⟩
      obtain ⟨as, bs, h3, h4, rfl⟩ := concL_append.1 h2
      exact ⟨x :: as, bs, concL_cons.2 ⟨x, as, h1, h3, rfl⟩, h4, rfl⟩
    · rintro ⟨as, bs, h1, h2, rfl⟩
      obtain ⟨x, ys, h3, h4, rfl⟩ := concL_cons.1 h1
      exact ⟨x, ys ++ bs, h3, concL_append.2 ⟨ys, bs, h4, h2, rfl⟩, rfl⟩
theorem concL_get : ∀ {l : List AV} {xs : List Value} {i : Nat} {v : AV}, concL φ ρ l = some xs → l[i]? = some v → ∃ x, conc φ ρ v = some x ∧ xs[i]? = some x
  | [], xs, i, v, _, h => by simp at h
  | u :: l, xs, i, v, h, hi => by
    obtain ⟨x, ys, h1, h2, rfl⟩ := concL_cons.1 h
    cases i with
    | zero => simp at hi; subst hi; exact ⟨x, h1, rfl⟩
    | succ i => simp at hi; simpa using concL_get h2 hi
theorem concL_drop : ∀ {l : List AV} {xs : List Value} (n : Nat), concL φ ρ l = some xs → concL φ ρ (l.drop n) = some (xs.drop n)
  | l, xs, 0, h => by simpa using h
  | [], xs, n + 1, h => by simp [concL] at h; subst h; simp [concL]
  | v :: l, xs, n + 1, h => by
    obtain ⟨x, ys, h1, h2, rfl⟩ := concL_cons.1 h
    simpa using concL_drop n h2
theorem concL_take : ∀ {l : List AV} {xs : List Value} (n : Nat), concL φ ρ l = some xs → concL φ ρ (l.take n) = some (xs.take n)
  | l, xs, 0, h => by simp [concL]
  | [], xs, n + 1, h => by simp [concL] at h; subst h; simp [concL]
  | v :: l, xs, n + 1, h => by
    obtain ⟨x, ys, h1, h2, rfl⟩ := concL_cons.1 h
    rw [List.take_succ_cons, List.take_succ_cons]
    exact concL_cons.2 ⟨x, _, h1, concL_take n h2, rfl⟩

theorem conc_ofCell (v : Value) : conc φ ρ (ofCell v) = some v := by
  cases v <;> simp [ofCell, conc, SI.ev, SB.ev]
theorem concL_ofCell : ∀ (l : List Value), concL φ ρ (l.map ofCell) = some l
  | [] => rfl
  | v :: l => concL_cons.2 ⟨v, l, conc_ofCell v, concL_ofCell l, rfl⟩
theorem conc_ofValue (v : Value) : conc φ ρ (ofValue v) = some v := by
  unfold ofValue
  split
  · simp [conc, concL_ofCell]
  · simp [conc, concL_ofCell]
  · exact conc_ofCell v
theorem conc_undef : conc φ ρ undefA = some undef := rfl
end

theorem isZ_ev {e : SI} (h : isZ e = true) (ρ : Nat → Int) : e.ev ρ = 0 := by
  cases e with
  | lit n =>
    have h : beqF n (.ofNat (nat_lit 0)) = true := h
    rw [beqF_eq] at h
    have h : n = 0 := of_decide_eq_true h
    rw [h]; rfl
  | var i => cases h
  | bin _ _ _ _ => cases h
  | conv _ _ => cases h
  | fold _ => cases h
  | rs _ _ _ _ => cases h
end Go.Proofs.YticednpolhnneaaGreat
