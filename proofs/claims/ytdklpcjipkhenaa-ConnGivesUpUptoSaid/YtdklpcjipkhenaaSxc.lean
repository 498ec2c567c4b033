/-
  A run reckoned ahead: the quick figures are the model's; rows by number; values and their places.
-/
import Derived.Test.YtdklpcjipkhenaaSxb
set_option linter.unusedVariables false
set_option linter.unusedSimpArgs false
namespace Go.Proofs.Ytdklpcjipkhenaa
open Go

theorem natBeq (a b : Nat) : Nat.beq a b = decide (a = b) := by
  cases h : Nat.beq a b with
  | true => have := Nat.eq_of_beq_eq_true h; simp [this]
  | false => have := Nat.ne_of_beq_eq_false h; simp [this]
theorem natBle (a b : Nat) : Nat.ble a b = decide (a ≤ b) := by
  by_cases h : a ≤ b
  · rw [Nat.ble_eq_true_of_le h]; simp [h]
  · have : Nat.ble a b ≠ true := fun e => h (Nat.le_of_ble_eq_true e)
    rw [decide_eq_false h]
    exact Bool.eq_false_iff.2 this
theorem natBlt (a b : Nat) : Nat.blt a b = decide (a < b) := natBle (a + 1) b

/-! rows by number -/
def Pos.num : Pos → Nat
  | .here => 0
  | .left p => 2 * p.num + 1
  | .right p => 2 * p.num + 2
theorem posF_num : ∀ (f k : Nat), k < f → (posF f k).num = k
  | 0, k, h => by omega
  | f + 1, 0, h => rfl
  | f + 1, k + 1, h => by
    have hk : (posF f (k / 2)).num = k / 2 := posF_num f (k / 2) (by omega)
    show (Bool.rec (motive := fun _ => Pos) (.right (posF f (k / 2))) (.left (posF f (k / 2))) (Nat.beq (k % 2) 0) : Pos).num = k + 1
    by_cases h2 : k % 2 = 0
    · rw [show Nat.beq (k % 2) 0 = true by rw [natBeq]; simp [h2]]
      show 2 * (posF f (k / 2)).num + 1 = k + 1
      omega
    · rw [show Nat.beq (k % 2) 0 = false by rw [natBeq]; simp [h2]]
      show 2 * (posF f (k / 2)).num + 2 = k + 1
      omega
theorem posOf_num (k : Nat) : (posOf k).num = k := posF_num _ _ (Nat.lt_succ_self k)
theorem posOf_inj {j k : Nat} (h : posOf j = posOf k) : j = k := by rw [← posOf_num j, h, posOf_num]
theorem Tr.getP_nil {α : Type} (p : Pos) : Tr.getP p (.nil : Tr α) = none := by cases p <;> rfl
theorem Tr.get_nil {α : Type} (k : Nat) : (Tr.nil : Tr α).get k = none := Tr.getP_nil _
theorem Tr.getP_setP {α : Type} (x : α) : ∀ (p q : Pos) (t : Tr α), (q = p → Tr.getP q (Tr.setP x p t) = some x) ∧ (q ≠ p → Tr.getP q (Tr.setP x p t) = Tr.getP q t)
  | .here, .here, t => ⟨fun _ => by cases t <;> rfl, fun h => absurd rfl h⟩
  | .here, .left q, t => ⟨(nomatch ·), fun _ => by cases t with | nil => exact Tr.getP_nil _ | node v l r => rfl⟩
  | .here, .right q, t => ⟨(nomatch ·), fun _ => by cases t with | nil => exact Tr.getP_nil _ | node v l r => rfl⟩
  | .left p, .here, t => ⟨(nomatch ·), fun _ => by cases t <;> rfl⟩
  | .right p, .here, t => ⟨(nomatch ·), fun _ => by cases t <;> rfl⟩
  | .left p, .right q, t => ⟨(nomatch ·), fun _ => by cases t with | nil => exact Tr.getP_nil _ | node v l r => rfl⟩
  | .right p, .left q, t => ⟨(nomatch ·), fun _ => by cases t with | nil => exact Tr.getP_nil _ | node v l r => rfl⟩
  | .left p, .left q, t => by
    refine ⟨fun h => ?_, fun h => ?_⟩
    · cases t with
      | nil => exact (Tr.getP_setP x p q .nil).1 (by injection h)
      | node v l r => exact (Tr.getP_setP x p q l).1 (by injection h)
    · have h : q ≠ p := fun e => h (by rw [e])
      cases t with
      | nil => exact ((Tr.getP_setP x p q .nil).2 h).trans (Tr.getP_nil _)
      | node v l r => exact (Tr.getP_setP x p q l).2 h
  | .right p, .right q, t => by
    refine ⟨fun h => ?_, fun h => ?_⟩
    · cases t with
      | nil => exact (Tr.getP_setP x p q .nil).1 (by injection h)
      | node v l r => exact (Tr.getP_setP x p q r).1 (by injection h)
    · have h : q ≠ p := fun e => h (by rw [e])
      cases t with
      | nil => exact ((Tr.getP_setP x p q .nil).2 h).trans (Tr.getP_nil _)
      | node v l r => exact (Tr.getP_setP x p q r).2 h
theorem Tr.get_set {α : Type} (t : Tr α) (k : Nat) (x : α) (j : Nat) : (t.set k x).get j = if j = k then some x else t.get j := by
  by_cases h : j = k
  · rw [if_pos h]; exact (Tr.getP_setP x _ _ t).1 (by rw [h])
  · rw [if_neg h]; exact (Tr.getP_setP x _ _ t).2 fun e => h (posOf_inj e)

/-! temporaries -/
theorem Ts.get_put (d : Nat) (v : AV) (t : Ts) (e : Nat) : (Ts.put d v t).get e = some v ∧ e = d ∨ (Ts.put d v t).get e = t.get e ∧ e ≠ d ∨ t.get e = none ∧ (Ts.put d v t).get e = none := by
  by_cases h : e = d
  · exact .inl ⟨(Tr.get_set t d v e).trans (if_pos h), h⟩
  · exact .inr (.inl ⟨(Tr.get_set t d v e).trans (if_neg h), h⟩)
theorem Ts.get_nil (d : Nat) : Ts.nil.get d = none := Tr.get_nil d
theorem Ts.getK_eq (t : Ts) (d : Nat) (κ : AV → R) : t.getK d κ = match t.get d with | some v => κ v | none => .fail 1 := by
  unfold Ts.getK Ts.get
  cases Tr.getP (posOf d) t <;> rfl
theorem tsF_get : ∀ (l : List AV) (n : Nat) (t : Ts) (d : Nat) (v : AV), (tsF l n t).get d = some v → (n ≤ d ∧ l[d - n]? = some v) ∨ t.get d = some v
  | [], n, t, d, v, h => .inr h
  | u :: l, n, t, d, v, h => by
    have h : (tsF l (n + 1) (Ts.put n u t)).get d = some v := h
    rcases tsF_get l (n + 1) _ d v h with ⟨h1, h2⟩ | h1
    · exact .inl ⟨by omega, by rw [show d - n = (d - (n + 1)) + 1 by omega]; simpa using h2⟩
    · rcases Ts.get_put n u t d with ⟨h2, rfl⟩ | ⟨h2, h3⟩ | ⟨h2, h3⟩
      · rw [h2] at h1; cases h1; exact .inl ⟨Nat.le_refl _, by simp⟩
      · rw [h2] at h1; exact .inr h1
      · rw [h3] at h1; cases h1
theorem skel_get (d : Nat) : ∀ p : Pos, Tr.getP p (skel d) = none := by
  induction d with
  | zero => intro p; exact Tr.getP_nil p
  | succ d ih => intro p; cases p with
    | here => rfl
    | left p => exact ih p
    | right p => exact ih p
theorem tsOf_get {sz : Nat} {l : List AV} {d : Nat} {v : AV} (h : (tsOf sz l).get d = some v) : l[d]? = some v := by
  rcases tsF_get l 0 _ d v h with ⟨_, h1⟩ | h1
  · simpa using h1
  · rw [show (skel (Nat.succ (Nat.log2 sz))).get d = none from skel_get _ _] at h1; cases h1

theorem forceN_eq {α : Type} (n : Nat) (k : Nat → α) : forceN n k = k n := by cases n <;> rfl
theorem forceI_eq {α : Type} (n : Int) (k : Int → α) : forceI n k = k n := by cases n <;> simp [forceI, forceN_eq]
theorem forceB_eq {α : Type} (b : Bool) (k : Bool → α) : forceB b k = k b := by cases b <;> rfl

/-! figures -/
theorem wrapF_eq (k : IntKind) (n : Int) : wrapF k n = k.wrap n := by
  cases k <;> simp [wrapF, IntKind.wrap, IntKind.bits, IntKind.signed, halfF, modF] <;>
    (try simp only [show ∀ a b : Int, Int.sub a b = a - b from fun _ _ => rfl, show ∀ a b : Int, Int.add a b = a + b from fun _ _ => rfl, show ∀ a b : Int, Int.emod a b = a % b from fun _ _ => rfl]) <;>
    (try split) <;> omega
theorem bltF_eq (a b : Int) : bltF a b = decide (a < b) := by
  cases a with
  | ofNat x => cases b with
    | ofNat y => rw [show bltF (.ofNat x) (.ofNat y) = Nat.blt x y from rfl, natBlt]; congr 1; apply propext; simp
    | negSucc y => rw [show bltF (.ofNat x) (.negSucc y) = false from rfl]; symm; rw [decide_eq_false_iff_not]; simp only [Int.ofNat_eq_natCast]; omega
  | negSucc x => cases b with
    | ofNat y => rw [show bltF (.negSucc x) (.ofNat y) = true from rfl]; symm; rw [decide_eq_true_eq]; simp only [Int.ofNat_eq_natCast]; omega
    | negSucc y => rw [show bltF (.negSucc x) (.negSucc y) = Nat.blt y x from rfl, natBlt]; congr 1; apply propext; omega
theorem beqF_eq (a b : Int) : beqF a b = decide (a = b) := by
  cases a with
  | ofNat x => cases b with
    | ofNat y => rw [show beqF (.ofNat x) (.ofNat y) = Nat.beq x y from rfl, natBeq]; congr 1; apply propext; simp only [Int.ofNat_eq_natCast]; omega
    | negSucc y => rw [show beqF (.ofNat x) (.negSucc y) = false from rfl]; symm; rw [decide_eq_false_iff_not]; simp only [Int.ofNat_eq_natCast]; omega
  | negSucc x => cases b with
    | ofNat y => rw [show beqF (.negSucc x) (.ofNat y) = false from rfl]; symm; rw [decide_eq_false_iff_not]; simp only [Int.ofNat_eq_natCast]; omega
    | negSucc y => rw [show beqF (.negSucc x) (.negSucc y) = Nat.beq x y from rfl, natBeq]; congr 1; apply propext; omega
theorem notF_eq (b : Bool) : notF b = !b := by cases b <;> rfl
theorem minF_eq (a b : Nat) : minF a b = min a b := by
  unfold minF
  rw [natBle]
  by_cases h : a ≤ b
  · simp [h, Nat.min_eq_left h]
  · simp [h]; omega
theorem maxF_eq (a b : Nat) : maxF a b = max a b := by
  unfold maxF
  rw [natBle]
  by_cases h : a ≤ b
  · simp [h, Nat.max_eq_right h]
  · simp [h]; omega
theorem bitsF_eq (k : IntKind) : bitsF k = k.bits := by cases k <;> rfl
theorem modF_eq (k : IntKind) : modF k = 2 ^ k.bits := by cases k <;> rfl
theorem lowF_eq (k : IntKind) (x : Int) : lowF k x = (BitVec.ofInt k.bits x).toNat := by
  rw [BitVec.toNat_ofInt]
  unfold lowF
  rw [modF_eq]
  rfl
theorem topF_eq (k : IntKind) (n : Nat) (h : n < topF k) : k.wrap n = n := by
  rw [← wrapF_eq]
  cases k <;> simp only [topF] at h <;> simp only [wrapF, halfF, modF, show ∀ a b : Int, Int.sub a b = a - b from fun _ _ => rfl, show ∀ a b : Int, Int.add a b = a + b from fun _ _ => rfl, show ∀ a b : Int, Int.emod a b = a % b from fun _ _ => rfl, Int.ofNat_eq_natCast] <;> omega
theorem finF_eq (k : IntKind) (n : Nat) : finF k n = k.wrap n := by
  unfold finF
  rw [natBlt]
  by_cases h : n < topF k
  · simp only [h, decide_true]
    exact (topF_eq k n h).symm
  · simp only [h, decide_false]
    exact wrapF_eq _ _
theorem convF_eq (k : IntKind) (x : Int) : convF k x = k.wrap x := by
  cases x with
  | ofNat n => exact finF_eq k n
  | negSucc n => exact wrapF_eq _ _
theorem addF_eq (k : IntKind) (x y : Int) : addF k x y = k.wrap (x + y) := by
  cases x with
  | ofNat a => cases y with
    | ofNat b => exact finF_eq k _
    | negSucc b => exact wrapF_eq _ _
  | negSucc a => exact wrapF_eq _ _
theorem subF_eq (k : IntKind) (x y : Int) : subF k x y = k.wrap (x - y) := by
  cases x with
  | ofNat a => cases y with
    | ofNat b =>
      show Bool.rec (motive := fun _ => Int) (wrapF k (Int.sub (.ofNat a) (.ofNat b))) (finF k (a - b)) (Nat.ble b a) = _
      rw [natBle]
      by_cases h : b ≤ a
      · simp only [h, decide_true]
        rw [finF_eq]
        congr 1
        simp only [Int.ofNat_eq_natCast]
        omega
      · simp only [h, decide_false]
        exact wrapF_eq _ _
    | negSucc b => exact wrapF_eq _ _
  | negSucc a => exact wrapF_eq _ _
theorem mulF_eq (k : IntKind) (x y : Int) : mulF k x y = k.wrap (x * y) := by
  cases x with
  | ofNat a => cases y with
    | ofNat b => exact finF_eq k _
    | negSucc b => exact wrapF_eq _ _
  | negSucc a => exact wrapF_eq _ _
theorem modN_eq (k : IntKind) : modN k = 2 ^ k.bits := by cases k <;> rfl
theorem lowQ_eq (k : IntKind) (x : Int) : lowQ k x = (BitVec.ofInt k.bits x).toNat := by
  cases x with
  | ofNat a =>
    rw [BitVec.toNat_ofInt]
    show a % modN k = _
    rw [modN_eq]
    rfl
  | negSucc a => exact lowF_eq _ _
theorem shrF_eq (x : Int) (n : Nat) : shrF x n = x.fdiv (2 ^ n) := by
  cases x with
  | ofNat a =>
    show ((a / 2 ^ n : Nat) : Int) = Int.fdiv (a : Int) (2 ^ n)
    rw [Int.fdiv_eq_ediv_of_nonneg _ (by exact Int.le_of_lt (Int.pow_pos (by omega)))]
    rw [Int.natCast_ediv, Int.natCast_pow]
    rfl
  | negSucc a =>
    show Int.fdiv _ _ = _
    rw [show Int.ofNat (Nat.pow 2 n) = (2 : Int) ^ n by rw [Int.ofNat_eq_natCast]; exact Int.natCast_pow 2 n]
theorem binF_eq (op : BinOp) (k : IntKind) (x y : Int) : binF op k x y = binZ op k x y := by
  cases op
  case add => exact addF_eq _ _ _
  case sub => exact subF_eq _ _ _
  case mul => exact mulF_eq _ _ _
  case quo => exact convF_eq _ _
  case rem => rfl
  case and => show finF k _ = _; rw [finF_eq, lowQ_eq, lowQ_eq]; simp only [binZ, BitVec.toNat_and]; rfl
  case or => show finF k _ = _; rw [finF_eq, lowQ_eq, lowQ_eq]; simp only [binZ, BitVec.toNat_or]; rfl
  case xor => show finF k _ = _; rw [finF_eq, lowQ_eq, lowQ_eq]; simp only [binZ, BitVec.toNat_xor]; rfl
  case andNot =>
    show finF k _ = _
    rw [finF_eq, lowQ_eq, lowQ_eq]
    simp only [binZ, BitVec.toNat_and, BitVec.toNat_not, modN_eq]
    rfl
  case shl =>
    show mulF k x (.ofNat (Nat.pow 2 (minF (Int.toNat y) (bitsF k)))) = _
    rw [mulF_eq, minF_eq, bitsF_eq]
    simp only [binZ]
    congr 2
  case shr => show shrF x _ = _; rw [shrF_eq, minF_eq, bitsF_eq]; rfl
  all_goals rfl
theorem cmpF_eq (op : BinOp) (x y : Int) : cmpF op x y = cmpZ op x y := by
  cases op
  case eql => show beqF x y = _; rw [beqF_eq]; rfl
  case neq => show notF (beqF x y) = _; rw [notF_eq, beqF_eq]; rfl
  case lss => show bltF x y = _; rw [bltF_eq]; rfl
  case leq => show notF (bltF y x) = _; rw [notF_eq, bltF_eq, ← decide_not]; simp [cmpZ]
  case gtr => show bltF y x = _; rw [bltF_eq]; rfl
  case geq => show notF (bltF x y) = _; rw [notF_eq, bltF_eq, ← decide_not]; simp [cmpZ]
  all_goals rfl
theorem kindEq_eq (a b : IntKind) : kindEq a b = decide (a = b) := by
  cases a <;> cases b <;> rfl

theorem kindEq_of {a b : IntKind} (h : kindEq a b = true) : a = b := by rw [kindEq_eq] at h; exact of_decide_eq_true h
theorem SI.beq_eq : ∀ (a b : SI), SI.beq a b = true → a = b := by
  intro a
  induction a with
  | lit n => intro b h; cases b <;> simp [SI.beq, beqF_eq, kindEq_eq] at h; rw [h]
  | var i => intro b h; cases b <;> simp [SI.beq, kindEq_eq] at h; rw [h]
  | bin o k a b iha ihb =>
    intro c h
    cases c <;> simp [SI.beq, kindEq_eq] at h
    obtain ⟨rfl, rfl, h1, h2⟩ := h
    rw [iha _ h1, ihb _ h2]
  | conv k a ih =>
    intro c h
    cases c <;> simp [SI.beq, kindEq_eq] at h
    obtain ⟨rfl, h1⟩ := h
    rw [ih _ h1]
  | fold a ih =>
    intro c h
    cases c <;> simp [SI.beq, kindEq_eq] at h
    rw [ih _ h]
theorem SB.beq_eq : ∀ (a b : SB), SB.beq a b = true → a = b := by
  intro a
  induction a with
  | lit n => intro b h; cases b <;> simp [SB.beq] at h; rw [h]
  | cmp o a b =>
    intro c h
    cases c <;> simp [SB.beq] at h
    obtain ⟨rfl, h1, h2⟩ := h
    rw [SI.beq_eq _ _ h1, SI.beq_eq _ _ h2]
  | not a ih =>
    intro c h
    cases c <;> simp [SB.beq] at h
    rw [ih _ h]

theorem wrap_add (k : IntKind) (m n : Int) : k.wrap (k.wrap m + n) = k.wrap (m + n) := by
  simp only [← wrapF_eq]
  cases k <;> simp only [wrapF, halfF, modF, show ∀ a b : Int, Int.sub a b = a - b from fun _ _ => rfl, show ∀ a b : Int, Int.add a b = a + b from fun _ _ => rfl, show ∀ a b : Int, Int.emod a b = a % b from fun _ _ => rfl, Int.ofNat_eq_natCast] <;> omega
theorem lin_spec (k : IntKind) (a : SI) (ρ : Nat → Int) : (linX k a = a ∧ linC k a = 0) ∨ a.ev ρ = k.wrap ((linX k a).ev ρ + linC k a) := by
  unfold linX linC
  split
  · rename_i k' x c
    by_cases h : k = k'
    · subst h
      right
      simp [SI.ev, binZ, kindEq_eq]
    · left
      simp [h, kindEq_eq]
  · left
    exact ⟨rfl, rfl⟩
theorem lin_wrap (k : IntKind) (a : SI) (ρ : Nat → Int) (n : Int) : k.wrap (a.ev ρ + n) = k.wrap ((linX k a).ev ρ + (linC k a + n)) := by
  rcases lin_spec k a ρ with ⟨h1, h2⟩ | h
  · rw [h1, h2]; congr 1; omega
  · rw [h, wrap_add]; congr 1; omega
theorem addC_spec {α : Type} (k : IntKind) (a : SI) (c : Int) (κ : SI → α) : ∃ e, addC k a c κ = κ e ∧ ∀ ρ, e.ev ρ = k.wrap (a.ev ρ + c) := by
  unfold addC
  rw [forceI_eq]
  refine ⟨_, rfl, fun ρ => ?_⟩
  simp only [SI.ev, binZ, wrapF_eq]
  rw [lin_wrap k a ρ c, show (linX k a).ev ρ + k.wrap ((linC k a).add c) = k.wrap ((linC k a).add c) + (linX k a).ev ρ from Int.add_comm _ _, wrap_add]
  congr 1
  show linC k a + c + _ = _
  omega
theorem subS_spec {α : Type} (k : IntKind) (a b : SI) (κ : SI → α) : ∃ e, subS k a b κ = κ e ∧ ∀ ρ, e.ev ρ = k.wrap (a.ev ρ - b.ev ρ) := by
  unfold subS
  cases h : SI.beq (linX k a) (linX k b) with
  | false => exact ⟨_, rfl, fun _ => rfl⟩
  | true =>
    simp only [forceI_eq]
    refine ⟨_, rfl, fun ρ => ?_⟩
    have hx := SI.beq_eq _ _ h
    simp only [SI.ev, wrapF_eq]
    rw [show a.ev ρ - b.ev ρ = a.ev ρ + (- b.ev ρ) by omega, lin_wrap, hx]
    rcases lin_spec k b ρ with ⟨h1, h2⟩ | h
    · rw [h1, h2]
      congr 1
      show linC k a - 0 = _
      omega
    · rw [h]
      have key : ∀ m n : Int, k.wrap (n - k.wrap m) = k.wrap (n - m) := by
        intro m n
        simp only [← wrapF_eq]
        cases k <;> simp only [wrapF, halfF, modF, show ∀ a b : Int, Int.sub a b = a - b from fun _ _ => rfl, show ∀ a b : Int, Int.add a b = a + b from fun _ _ => rfl, show ∀ a b : Int, Int.emod a b = a % b from fun _ _ => rfl, Int.ofNat_eq_natCast] <;> omega
      rw [show ∀ x y z : Int, x + (y + -z) = (x + y) - z from fun x y z => by omega, key]
      congr 1
      show linC k a - linC k b = _
      omega
theorem binS_spec {α : Type} (op : BinOp) (k : IntKind) (a b : SI) (κ : SI → α) : ∃ e, binS op k a b κ = κ e ∧ ∀ ρ, e.ev ρ = binZ op k (a.ev ρ) (b.ev ρ) := by
  unfold binS
  split
  · split
    · exact addC_spec k a _ κ
    · split
      · obtain ⟨e, h1, h2⟩ := addC_spec k _ _ κ
        exact ⟨e, h1, fun ρ => by rw [h2, Int.add_comm]; rfl⟩
      · exact ⟨_, rfl, fun _ => rfl⟩
  · split
    · rename_i y
      obtain ⟨e, h1, h2⟩ := addC_spec k a (Int.neg y) κ
      exact ⟨e, h1, fun ρ => by rw [h2]; rfl⟩
    · exact subS_spec k a b κ
  · exact ⟨_, rfl, fun _ => rfl⟩
section
variable {α : Type} {ρ : Nat → Int}
theorem binK_spec (op : BinOp) (k : IntKind) (a b : SI) (κ : SI → α) : ∃ e, binK op k a b κ = κ e ∧ ∀ ρ, e.ev ρ = binZ op k (a.ev ρ) (b.ev ρ) := by
  cases a with
  | lit x =>
    cases b with
    | lit y =>
      show ∃ e, forceI (binF op k x y) (fun n => κ (.lit n)) = κ e ∧ _
      rw [forceI_eq]; exact ⟨_, rfl, fun ρ => binF_eq _ _ _ _⟩
    | var i => exact binS_spec op k (.lit x) (.var i) κ
    | bin o k' u v => exact binS_spec op k (.lit x) (.bin o k' u v) κ
    | conv k' u => exact binS_spec op k (.lit x) (.conv k' u) κ
    | fold u => exact binS_spec op k (.lit x) (.fold u) κ
  | var i => exact binS_spec op k (.var i) b κ
  | bin o k' u v => exact binS_spec op k (.bin o k' u v) b κ
  | conv k' u => exact binS_spec op k (.conv k' u) b κ
  | fold u => exact binS_spec op k (.fold u) b κ
theorem convK_spec (k : IntKind) (a : SI) (κ : SI → α) : ∃ e, convK k a κ = κ e ∧ ∀ ρ, e.ev ρ = k.wrap (a.ev ρ) := by
  cases a with
  | lit x =>
    show ∃ e, forceI (convF k x) (fun n => κ (.lit n)) = κ e ∧ _
    rw [forceI_eq]; exact ⟨_, rfl, fun ρ => convF_eq _ _⟩
  | _ => exact ⟨_, rfl, fun _ => rfl⟩
theorem cmpG_spec (op : BinOp) (a b : SI) (κ : SB → α) : ∃ e, cmpG op a b κ = κ e ∧ ∀ ρ, e.ev ρ = cmpZ op (a.ev ρ) (b.ev ρ) := by
  unfold cmpG
  cases h : SI.beq a b with
  | false => exact ⟨_, rfl, fun _ => rfl⟩
  | true =>
    simp only [forceB_eq]
    refine ⟨_, rfl, fun ρ => ?_⟩
    rw [SI.beq_eq _ _ h]
    simp only [SB.ev, cmpF_eq]
    cases op <;> simp [cmpZ]
theorem cmpK_spec (op : BinOp) (a b : SI) (κ : SB → α) : ∃ e, cmpK op a b κ = κ e ∧ ∀ ρ, e.ev ρ = cmpZ op (a.ev ρ) (b.ev ρ) := by
  cases a with
  | lit x =>
    cases b with
    | lit y =>
      show ∃ e, forceB (cmpF op x y) (fun c => κ (.lit c)) = κ e ∧ _
      rw [forceB_eq]; exact ⟨_, rfl, fun ρ => cmpF_eq _ _ _⟩
    | _ => exact ⟨_, rfl, fun _ => rfl⟩
  | var i => exact cmpG_spec op (.var i) b κ
  | bin o k' u v => exact cmpG_spec op (.bin o k' u v) b κ
  | conv k' u => exact cmpG_spec op (.conv k' u) b κ
  | fold u => exact cmpG_spec op (.fold u) b κ
theorem notK_spec (a : SB) (κ : SB → α) : ∃ e, notK a κ = κ e ∧ ∀ ρ, e.ev ρ = !(a.ev ρ) := by
  cases a with
  | lit b => exact ⟨_, rfl, fun ρ => notF_eq _⟩
  | _ => exact ⟨_, rfl, fun _ => rfl⟩
end

/-! values -/
section
variable {φ φ' : List Pl} {ρ : Nat → Int}
theorem pl_mono (h : φ <+: φ') {id : Nat} {p : Pl} (hp : φ[id]? = some p) : φ'[id]? = some p := by
  obtain ⟨t, rfl⟩ := h
  exact List.getElem?_append_left (List.getElem?_eq_some_iff.1 hp).1 ▸ hp
mutual
theorem conc_mono (h : φ <+: φ') : ∀ (v : AV) (x : Value), conc φ ρ v = some x → conc φ' ρ v = some x
  | .int k e, x, hx => by simpa [conc] using hx
  | .bool b, x, hx => by simpa [conc] using hx
  | .ptr id off, x, hx => by
    simp only [conc, Option.map_eq_some_iff] at hx ⊢
    obtain ⟨p, hp, hx⟩ := hx
    exact ⟨p, pl_mono h hp, hx⟩
  | .sl id off len cap, x, hx => by
    simp only [conc, Option.map_eq_some_iff] at hx ⊢
    obtain ⟨p, hp, hx⟩ := hx
    exact ⟨p, pl_mono h hp, hx⟩
  | .emp id a b, x, hx => by
    simp only [conc, Option.map_eq_some_iff] at hx ⊢
    obtain ⟨p, hp, hx⟩ := hx
    exact ⟨p, pl_mono h hp, hx⟩
  | .map id, x, hx => by
    simp only [conc, Option.map_eq_some_iff] at hx ⊢
    obtain ⟨p, hp, hx⟩ := hx
    exact ⟨p, pl_mono h hp, hx⟩
  | .fn f a b, x, hx => by
    simp only [conc, Option.bind_eq_some_iff, Option.map_eq_some_iff] at hx ⊢
    obtain ⟨u, hu, w, hw, hx⟩ := hx
    exact ⟨u, concL_mono h a u hu, w, concL_mono h b w hw, hx⟩
  | .iface t v, x, hx => by
    simp only [conc, Option.map_eq_some_iff] at hx ⊢
    obtain ⟨p, hp, hx⟩ := hx
    exact ⟨p, conc_mono h v p hp, hx⟩
  | .agg l, x, hx => by
    simp only [conc, Option.map_eq_some_iff] at hx ⊢
    obtain ⟨p, hp, hx⟩ := hx
    exact ⟨p, concL_mono h l p hp, hx⟩
  | .tup l, x, hx => by
    simp only [conc, Option.map_eq_some_iff] at hx ⊢
    obtain ⟨p, hp, hx⟩ := hx
    exact ⟨p, concL_mono h l p hp, hx⟩
  | .raw v, x, hx => by simpa [conc] using hx
  | .opq v, x, hx => by simpa [conc] using hx
  | .osl p k c, x, hx => by simpa [conc] using hx
theorem concL_mono (h : φ <+: φ') : ∀ (v : List AV) (x : List Value), concL φ ρ v = some x → concL φ' ρ v = some x
  | [], x, hx => by simpa [concL] using hx
  | v :: l, x, hx => by
    simp only [concL, Option.bind_eq_some_iff, Option.map_eq_some_iff] at hx ⊢
    obtain ⟨u, hu, w, hw, hx⟩ := hx
    exact ⟨u, conc_mono h v u hu, w, concL_mono h l w hw, hx⟩
end

theorem concL_cons {v : AV} {l : List AV} {xs : List Value} : concL φ ρ (v :: l) = some xs ↔ ∃ x ys, conc φ ρ v = some x ∧ concL φ ρ l = some ys ∧ xs = x :: ys := by
  simp only [concL, Option.bind_eq_some_iff, Option.map_eq_some_iff]
  constructor
  · rintro ⟨a, h1, b, h2, rfl⟩; exact ⟨a, b, h1, h2, rfl⟩
  · rintro ⟨a, b, h1, h2, rfl⟩; exact ⟨a, h1, b, h2, rfl⟩
theorem concL_length : ∀ {l : List AV} {xs : List Value}, concL φ ρ l = some xs → xs.length = l.length
  | [], xs, h => by simp [concL] at h; simp [← h]
  | v :: l, xs, h => by
    obtain ⟨x, ys, _, h2, rfl⟩ := concL_cons.1 h
    simp [concL_length h2]
theorem concL_append : ∀ {l m : List AV} {xs : List Value}, concL φ ρ (l ++ m) = some xs ↔ ∃ ys zs, concL φ ρ l = some ys ∧ concL φ ρ m = some zs ∧ xs = ys ++ zs
  | [], m, xs => by simp [concL]
  | v :: l, m, xs => by
    rw [List.cons_append, concL_cons]
    constructor
    · rintro ⟨x, ys, h1, h2, rfl⟩
      obtain ⟨as, bs, h3, h4, rfl⟩ := concL_append.1 h2
      exact ⟨x :: as, bs, concL_cons.2 ⟨x, as, h1, h3, rfl⟩, h4, rfl⟩
    · rintro ⟨as, bs, h1, h2, rfl⟩
      obtain ⟨x, ys, h3, h4, rfl⟩ := concL_cons.1 h1
      exact ⟨x, ys ++ bs, h3, concL_append.2 ⟨ys, bs, h4, h2, rfl⟩, rfl⟩
theorem concL_get : ∀ {l : List AV} {xs : List Value} {i : Nat} {v : AV}, concL φ ρ l = some xs → l[i]? = some v → ∃ x, conc φ ρ v = some x ∧ xs[i]? = some x
  | [], xs, i, v, _, h => by simp at h
  | u :: l, xs, i, v, h, hi => by
    obtain ⟨x, ys, h1, h2, rfl⟩ := concL_cons.1 h
    cases i with
    | zero => simp at hi; subst hi; exact ⟨x, h1, rfl⟩
    | succ i => simp at hi; simpa using concL_get h2 hi
theorem concL_drop : ∀ {l : List AV} {xs : List Value} (n : Nat), concL φ ρ l = some xs → concL φ ρ (l.drop n) = some (xs.drop n)
  | l, xs, 0, h => by simpa using h
  | [], xs, n + 1, h => by simp [concL] at h; subst h; simp [concL]
  | v :: l, xs, n + 1, h => by
    obtain ⟨x, ys, h1, h2, rfl⟩ := concL_cons.1 h
    simpa using concL_drop n h2
theorem concL_take : ∀ {l : List AV} {xs : List Value} (n : Nat), concL φ ρ l = some xs → concL φ ρ (l.take n) = some (xs.take n)
  | l, xs, 0, h => by simp [concL]
  | [], xs, n + 1, h => by simp [concL] at h; subst h; simp [concL]
  | v :: l, xs, n + 1, h => by
    obtain ⟨x, ys, h1, h2, rfl⟩ := concL_cons.1 h
    rw [List.take_succ_cons, List.take_succ_cons]
    exact concL_cons.2 ⟨x, _, h1, concL_take n h2, rfl⟩

theorem conc_ofCell (v : Value) : conc φ ρ (ofCell v) = some v := by
  cases v <;> simp [ofCell, conc, SI.ev, SB.ev]
theorem concL_ofCell : ∀ (l : List Value), concL φ ρ (l.map ofCell) = some l
  | [] => rfl
  | v :: l => concL_cons.2 ⟨v, l, conc_ofCell v, concL_ofCell l, rfl⟩
theorem conc_ofValue (v : Value) : conc φ ρ (ofValue v) = some v := by
  unfold ofValue
  split
  · simp [conc, concL_ofCell]
  · simp [conc, concL_ofCell]
  · exact conc_ofCell v
theorem conc_undef : conc φ ρ undefA = some undef := rfl
end

end Go.Proofs.Ytdklpcjipkhenaa
