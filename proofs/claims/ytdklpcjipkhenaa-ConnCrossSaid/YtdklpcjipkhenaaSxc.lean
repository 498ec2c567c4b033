/-
  A run reckoned ahead: the quick figures are the model's; rows by number; values and their places.
-/
import Derived.Test.YtdklpcjipkhenaaSxb
set_option linter.unusedVariables false
set_option linter.unusedSimpArgs false
namespace Go.Proofs.Ytdklpcjipkhenaa
open Go

theorem natBeq (a b : Nat) : Nat.beq a b = decide (a = b) := by
  cases h : Nat.beq a b with
  | true => have := Nat.eq_of_beq_eq_true h; simp [this]
  | false => have := Nat.ne_of_beq_eq_false h; simp [this]
theorem natBle (a b : Nat) : Nat.ble a b = decide (a ≤ b) := by
  by_cases h : a ≤ b
  · rw [Nat.ble_eq_true_of_le h]; simp [h]
  · have : Nat.ble a b ≠ true := fun e => h (Nat.le_of_ble_eq_true e)
    rw [decide_eq_false h]
    exact Bool.eq_false_iff.2 this
theorem natBlt (a b : Nat) : Nat.blt a b = decide (a < b) := natBle (a + 1) b

/-! rows by number -/
theorem Tr.get_nil {α : Type} (k : Nat) : (Tr.nil : Tr α).get k = none := rfl
theorem Tr.get_zero {α : Type} (v : Option α) (l r : Tr α) : (Tr.node v l r).get 0 = v := rfl
theorem Tr.get_succ {α : Type} (v : Option α) (l r : Tr α) (k : Nat) : (Tr.node v l r).get (k + 1) = if k % 2 = 0 then l.get (k / 2) else r.get (k / 2) := by
  show Bool.rec (motive := fun _ => Option α) (r.get (k / 2)) (l.get (k / 2)) (Nat.beq (k % 2) 0) = _
  by_cases h : k % 2 = 0
  · rw [if_pos h, show Nat.beq (k % 2) 0 = true by rw [natBeq]; simp [h]]
  · rw [if_neg h]
    rw [show Nat.beq (k % 2) 0 = false by rw [natBeq]; simp [h]]

theorem Tr.setF_zero_nil {α : Type} (x : α) (f : Nat) : Tr.setF x (f + 1) .nil 0 = .node (some x) .nil .nil := rfl
theorem Tr.setF_zero_node {α : Type} (x : α) (f : Nat) (v : Option α) (l r : Tr α) : Tr.setF x (f + 1) (.node v l r) 0 = .node (some x) l r := rfl
theorem Tr.setF_succ_nil {α : Type} (x : α) (f k : Nat) : Tr.setF x (f + 1) .nil (k + 1) = if k % 2 = 0 then .node none (Tr.setF x f .nil (k / 2)) .nil else .node none .nil (Tr.setF x f .nil (k / 2)) := by
  show Bool.rec (motive := fun _ => Tr α) (.node none .nil (Tr.setF x f .nil (k / 2))) (.node none (Tr.setF x f .nil (k / 2)) .nil) (Nat.beq (k % 2) 0) = _
  by_cases h : k % 2 = 0
  · rw [if_pos h, show Nat.beq (k % 2) 0 = true by rw [natBeq]; simp [h]]
  · rw [if_neg h]
    rw [show Nat.beq (k % 2) 0 = false by rw [natBeq]; simp [h]]
theorem Tr.setF_succ_node {α : Type} (x : α) (f k : Nat) (v : Option α) (l r : Tr α) : Tr.setF x (f + 1) (.node v l r) (k + 1) = if k % 2 = 0 then .node v (Tr.setF x f l (k / 2)) r else .node v l (Tr.setF x f r (k / 2)) := by
  show Bool.rec (motive := fun _ => Tr α) (.node v l (Tr.setF x f r (k / 2))) (.node v (Tr.setF x f l (k / 2)) r) (Nat.beq (k % 2) 0) = _
  by_cases h : k % 2 = 0
  · rw [if_pos h, show Nat.beq (k % 2) 0 = true by rw [natBeq]; simp [h]]
  · rw [if_neg h]
    rw [show Nat.beq (k % 2) 0 = false by rw [natBeq]; simp [h]]

theorem Tr.get_setF {α : Type} (x : α) : ∀ (f : Nat) (t : Tr α) (k j : Nat), k < f → (Tr.setF x f t k).get j = if j = k then some x else t.get j := by
  intro f
  induction f with
  | zero => intro t k j h; omega
  | succ f ih =>
    intro t k j h
    cases k with
    | zero =>
      cases t with
      | nil =>
        rw [Tr.setF_zero_nil]
        cases j with
        | zero => rfl
        | succ j => rw [Tr.get_succ]; simp [Tr.get_nil]
      | node v l r =>
        rw [Tr.setF_zero_node]
        cases j with
        | zero => rfl
        | succ j => rw [Tr.get_succ, Tr.get_succ, if_neg (show ¬ j + 1 = 0 by omega)]
    | succ k =>
      have hk : k / 2 < f := by omega
      cases t with
      | nil =>
        rw [Tr.setF_succ_nil]
        cases j with
        | zero => split <;> rfl
        | succ j =>
          by_cases h1 : k % 2 = 0
          · rw [if_pos h1, Tr.get_succ]
            by_cases h2 : j % 2 = 0
            · rw [if_pos h2, ih _ _ _ hk]
              by_cases h3 : j = k
              · subst h3; simp
              · rw [if_neg (by omega), if_neg (by omega)]; rfl
            · rw [if_neg h2, if_neg (by omega)]; rfl
          · rw [if_neg h1, Tr.get_succ]
            by_cases h2 : j % 2 = 0
            · rw [if_pos h2, if_neg (by omega)]; rfl
            · rw [if_neg h2, ih _ _ _ hk]
              by_cases h3 : j = k
              · subst h3; simp
              · rw [if_neg (by omega), if_neg (by omega)]; rfl
      | node v l r =>
        rw [Tr.setF_succ_node]
        cases j with
        | zero => split <;> rfl
        | succ j =>
          by_cases h1 : k % 2 = 0
          · rw [if_pos h1, Tr.get_succ, Tr.get_succ]
            by_cases h2 : j % 2 = 0
            · rw [if_pos h2, if_pos h2, ih _ _ _ hk]
              by_cases h3 : j = k
              · subst h3; simp
              · rw [if_neg (by omega), if_neg (by omega)]
            · rw [if_neg h2, if_neg h2, if_neg (by omega)]
          · rw [if_neg h1, Tr.get_succ, Tr.get_succ]
            by_cases h2 : j % 2 = 0
            · rw [if_pos h2, if_pos h2, if_neg (by omega)]
            · rw [if_neg h2, if_neg h2, ih _ _ _ hk]
              by_cases h3 : j = k
              · subst h3; simp
              · rw [if_neg (by omega), if_neg (by omega)]
theorem Tr.get_set {α : Type} (t : Tr α) (k : Nat) (x : α) (j : Nat) : (t.set k x).get j = if j = k then some x else t.get j := Tr.get_setF x (k + 1) t k j (by omega)

theorem forceN_eq {α : Type} (n : Nat) (k : Nat → α) : forceN n k = k n := by cases n <;> rfl
theorem forceI_eq {α : Type} (n : Int) (k : Int → α) : forceI n k = k n := by cases n <;> simp [forceI, forceN_eq]
theorem forceB_eq {α : Type} (b : Bool) (k : Bool → α) : forceB b k = k b := by cases b <;> rfl

/-! figures -/
theorem wrapF_eq (k : IntKind) (n : Int) : wrapF k n = k.wrap n := by
  cases k <;> simp [wrapF, IntKind.wrap, IntKind.bits, IntKind.signed, halfF, modF] <;>
    (try simp only [show ∀ a b : Int, Int.sub a b = a - b from fun _ _ => rfl, show ∀ a b : Int, Int.add a b = a + b from fun _ _ => rfl, show ∀ a b : Int, Int.emod a b = a % b from fun _ _ => rfl]) <;>
    (try split) <;> omega
theorem bltF_eq (a b : Int) : bltF a b = decide (a < b) := by
  cases a with
  | ofNat x => cases b with
    | ofNat y => rw [show bltF (.ofNat x) (.ofNat y) = Nat.blt x y from rfl, natBlt]; congr 1; apply propext; simp
    | negSucc y => rw [show bltF (.ofNat x) (.negSucc y) = false from rfl]; symm; rw [decide_eq_false_iff_not]; simp only [Int.ofNat_eq_natCast]; omega
  | negSucc x => cases b with
    | ofNat y => rw [show bltF (.negSucc x) (.ofNat y) = true from rfl]; symm; rw [decide_eq_true_eq]; simp only [Int.ofNat_eq_natCast]; omega
    | negSucc y => rw [show bltF (.negSucc x) (.negSucc y) = Nat.blt y x from rfl, natBlt]; congr 1; apply propext; omega
theorem beqF_eq (a b : Int) : beqF a b = decide (a = b) := by
  cases a with
  | ofNat x => cases b with
    | ofNat y => rw [show beqF (.ofNat x) (.ofNat y) = Nat.beq x y from rfl, natBeq]; congr 1; apply propext; simp only [Int.ofNat_eq_natCast]; omega
    | negSucc y => rw [show beqF (.ofNat x) (.negSucc y) = false from rfl]; symm; rw [decide_eq_false_iff_not]; simp only [Int.ofNat_eq_natCast]; omega
  | negSucc x => cases b with
    | ofNat y => rw [show beqF (.negSucc x) (.ofNat y) = false from rfl]; symm; rw [decide_eq_false_iff_not]; simp only [Int.ofNat_eq_natCast]; omega
    | negSucc y => rw [show beqF (.negSucc x) (.negSucc y) = Nat.beq x y from rfl, natBeq]; congr 1; apply propext; omega
theorem notF_eq (b : Bool) : notF b = !b := by cases b <;> rfl
theorem minF_eq (a b : Nat) : minF a b = min a b := by
  unfold minF
  rw [natBle]
  by_cases h : a ≤ b
  · simp [h, Nat.min_eq_left h]
  · simp [h]; omega
theorem maxF_eq (a b : Nat) : maxF a b = max a b := by
  unfold maxF
  rw [natBle]
  by_cases h : a ≤ b
  · simp [h, Nat.max_eq_right h]
  · simp [h]; omega
theorem bitsF_eq (k : IntKind) : bitsF k = k.bits := by cases k <;> rfl
theorem modF_eq (k : IntKind) : modF k = 2 ^ k.bits := by cases k <;> rfl
theorem lowF_eq (k : IntKind) (x : Int) : lowF k x = (BitVec.ofInt k.bits x).toNat := by
  rw [BitVec.toNat_ofInt]
  unfold lowF
  rw [modF_eq]
  rfl
theorem binF_eq (op : BinOp) (k : IntKind) (x y : Int) : binF op k x y = binZ op k x y := by
  cases op <;> simp only [binF, binZ, wrapF_eq, lowF_eq, BitVec.toNat_and, BitVec.toNat_or, BitVec.toNat_xor, minF_eq, bitsF_eq] <;> try rfl
  case andNot =>
    congr 2
    rw [BitVec.toNat_not, modF_eq]
    have : Int.toNat (2 ^ k.bits) = 2 ^ k.bits := by
      have : (2 : Int) ^ k.bits = ((2 ^ k.bits : Nat) : Int) := by rw [Int.natCast_pow]; rfl
      rw [this, Int.toNat_natCast]
    rw [this]
    rfl
theorem cmpF_eq (op : BinOp) (x y : Int) : cmpF op x y = cmpZ op x y := by
  cases op <;> simp only [cmpF, cmpZ, beqF_eq, bltF_eq, notF_eq] <;> try rfl
  case leq => rw [← decide_not]; simp
  case geq => rw [← decide_not]; simp

theorem SI.beq_eq : ∀ (a b : SI), SI.beq a b = true → a = b := by
  intro a
  induction a with
  | lit n => intro b h; cases b <;> simp [SI.beq, beqF_eq] at h; rw [h]
  | var i => intro b h; cases b <;> simp [SI.beq] at h; rw [h]
  | bin o k a b iha ihb =>
    intro c h
    cases c <;> simp [SI.beq] at h
    obtain ⟨rfl, rfl, h1, h2⟩ := h
    rw [iha _ h1, ihb _ h2]
  | conv k a ih =>
    intro c h
    cases c <;> simp [SI.beq] at h
    obtain ⟨rfl, h1⟩ := h
    rw [ih _ h1]
  | fold a ih =>
    intro c h
    cases c <;> simp [SI.beq] at h
    rw [ih _ h]
theorem SB.beq_eq : ∀ (a b : SB), SB.beq a b = true → a = b := by
  intro a
  induction a with
  | lit n => intro b h; cases b <;> simp [SB.beq] at h; rw [h]
  | cmp o a b =>
    intro c h
    cases c <;> simp [SB.beq] at h
    obtain ⟨rfl, h1, h2⟩ := h
    rw [SI.beq_eq _ _ h1, SI.beq_eq _ _ h2]
  | not a ih =>
    intro c h
    cases c <;> simp [SB.beq] at h
    rw [ih _ h]

theorem wrap_add (k : IntKind) (m n : Int) : k.wrap (k.wrap m + n) = k.wrap (m + n) := by
  simp only [← wrapF_eq]
  cases k <;> simp only [wrapF, halfF, modF, show ∀ a b : Int, Int.sub a b = a - b from fun _ _ => rfl, show ∀ a b : Int, Int.add a b = a + b from fun _ _ => rfl, show ∀ a b : Int, Int.emod a b = a % b from fun _ _ => rfl, Int.ofNat_eq_natCast] <;> omega
theorem lin_spec (k : IntKind) (a : SI) (ρ : Nat → Int) : (linX k a = a ∧ linC k a = 0) ∨ a.ev ρ = k.wrap ((linX k a).ev ρ + linC k a) := by
  unfold linX linC
  split
  · rename_i k' x c
    by_cases h : k = k'
    · subst h
      right
      simp [SI.ev, binZ]
    · left
      simp [h]
  · left
    exact ⟨rfl, rfl⟩
theorem lin_wrap (k : IntKind) (a : SI) (ρ : Nat → Int) (n : Int) : k.wrap (a.ev ρ + n) = k.wrap ((linX k a).ev ρ + (linC k a + n)) := by
  rcases lin_spec k a ρ with ⟨h1, h2⟩ | h
  · rw [h1, h2]; congr 1; omega
  · rw [h, wrap_add]; congr 1; omega
theorem addC_spec {α : Type} (k : IntKind) (a : SI) (c : Int) (κ : SI → α) : ∃ e, addC k a c κ = κ e ∧ ∀ ρ, e.ev ρ = k.wrap (a.ev ρ + c) := by
  unfold addC
  rw [forceI_eq]
  refine ⟨_, rfl, fun ρ => ?_⟩
  simp only [SI.ev, binZ, wrapF_eq]
  rw [lin_wrap k a ρ c, show (linX k a).ev ρ + k.wrap ((linC k a).add c) = k.wrap ((linC k a).add c) + (linX k a).ev ρ from Int.add_comm _ _, wrap_add]
  congr 1
  show linC k a + c + _ = _
  omega
theorem subS_spec {α : Type} (k : IntKind) (a b : SI) (κ : SI → α) : ∃ e, subS k a b κ = κ e ∧ ∀ ρ, e.ev ρ = k.wrap (a.ev ρ - b.ev ρ) := by
  unfold subS
  cases h : SI.beq (linX k a) (linX k b) with
  | false => exact ⟨_, rfl, fun _ => rfl⟩
  | true =>
    simp only [forceI_eq]
    refine ⟨_, rfl, fun ρ => ?_⟩
    have hx := SI.beq_eq _ _ h
    simp only [SI.ev, wrapF_eq]
    rw [show a.ev ρ - b.ev ρ = a.ev ρ + (- b.ev ρ) by omega, lin_wrap, hx]
    rcases lin_spec k b ρ with ⟨h1, h2⟩ | h
    · rw [h1, h2]
      congr 1
      show linC k a - 0 = _
      omega
    · rw [h]
      have key : ∀ m n : Int, k.wrap (n - k.wrap m) = k.wrap (n - m) := by
        intro m n
        simp only [← wrapF_eq]
        cases k <;> simp only [wrapF, halfF, modF, show ∀ a b : Int, Int.sub a b = a - b from fun _ _ => rfl, show ∀ a b : Int, Int.add a b = a + b from fun _ _ => rfl, show ∀ a b : Int, Int.emod a b = a % b from fun _ _ => rfl, Int.ofNat_eq_natCast] <;> omega
      rw [show ∀ x y z : Int, x + (y + -z) = (x + y) - z from fun x y z => by omega, key]
      congr 1
      show linC k a - linC k b = _
      omega
theorem binS_spec {α : Type} (op : BinOp) (k : IntKind) (a b : SI) (κ : SI → α) : ∃ e, binS op k a b κ = κ e ∧ ∀ ρ, e.ev ρ = binZ op k (a.ev ρ) (b.ev ρ) := by
  unfold binS
  split
  · split
    · exact addC_spec k a _ κ
    · split
      · obtain ⟨e, h1, h2⟩ := addC_spec k _ _ κ
        exact ⟨e, h1, fun ρ => by rw [h2, Int.add_comm]; rfl⟩
      · exact ⟨_, rfl, fun _ => rfl⟩
  · split
    · rename_i y
      obtain ⟨e, h1, h2⟩ := addC_spec k a (Int.neg y) κ
      exact ⟨e, h1, fun ρ => by rw [h2]; rfl⟩
    · exact subS_spec k a b κ
  · exact ⟨_, rfl, fun _ => rfl⟩
section
variable {α : Type} {ρ : Nat → Int}
theorem binK_spec (op : BinOp) (k : IntKind) (a b : SI) (κ : SI → α) : ∃ e, binK op k a b κ = κ e ∧ ∀ ρ, e.ev ρ = binZ op k (a.ev ρ) (b.ev ρ) := by
  unfold binK
  split
  · split
    · rw [forceI_eq]; exact ⟨_, rfl, fun ρ => binF_eq _ _ _ _⟩
    · exact binS_spec _ _ _ _ _
  · exact binS_spec _ _ _ _ _
theorem convK_spec (k : IntKind) (a : SI) (κ : SI → α) : ∃ e, convK k a κ = κ e ∧ ∀ ρ, e.ev ρ = k.wrap (a.ev ρ) := by
  unfold convK
  split
  · rw [forceI_eq]; exact ⟨_, rfl, fun ρ => wrapF_eq _ _⟩
  · exact ⟨_, rfl, fun _ => rfl⟩
theorem cmpK_spec (op : BinOp) (a b : SI) (κ : SB → α) : ∃ e, cmpK op a b κ = κ e ∧ ∀ ρ, e.ev ρ = cmpZ op (a.ev ρ) (b.ev ρ) := by
  unfold cmpK
  split
  · split
    · rw [forceB_eq]; exact ⟨_, rfl, fun ρ => cmpF_eq _ _ _⟩
    · exact ⟨_, rfl, fun _ => rfl⟩
  · cases h : SI.beq a b with
    | false => exact ⟨_, rfl, fun _ => rfl⟩
    | true =>
      simp only [forceB_eq]
      refine ⟨_, rfl, fun ρ => ?_⟩
      rw [SI.beq_eq _ _ h]
      simp only [SB.ev, cmpF_eq]
      cases op <;> simp [cmpZ]
theorem notK_spec (a : SB) (κ : SB → α) : ∃ e, notK a κ = κ e ∧ ∀ ρ, e.ev ρ = !(a.ev ρ) := by
  unfold notK
  split
  · exact ⟨_, rfl, fun ρ => notF_eq _⟩
  · exact ⟨_, rfl, fun _ => rfl⟩
end

/-! values -/
section
variable {φ φ' : List Pl} {ρ : Nat → Int}
theorem pl_mono (h : φ <+: φ') {id : Nat} {p : Pl} (hp : φ[id]? = some p) : φ'[id]? = some p := by
  obtain ⟨t, rfl⟩ := h
  exact List.getElem?_append_left (List.getElem?_eq_some_iff.1 hp).1 ▸ hp
mutual
theorem conc_mono (h : φ <+: φ') : ∀ (v : AV) (x : Value), conc φ ρ v = some x → conc φ' ρ v = some x
  | .int k e, x, hx => by simpa [conc] using hx
  | .bool b, x, hx => by simpa [conc] using hx
  | .ptr id off, x, hx => by
    simp only [conc, Option.map_eq_some_iff] at hx ⊢
    obtain ⟨p, hp, hx⟩ := hx
    exact ⟨p, pl_mono h hp, hx⟩
  | .sl id off len cap, x, hx => by
    simp only [conc, Option.map_eq_some_iff] at hx ⊢
    obtain ⟨p, hp, hx⟩ := hx
    exact ⟨p, pl_mono h hp, hx⟩
  | .emp id a b, x, hx => by
    simp only [conc, Option.map_eq_some_iff] at hx ⊢
    obtain ⟨p, hp, hx⟩ := hx
    exact ⟨p, pl_mono h hp, hx⟩
  | .map id, x, hx => by
    simp only [conc, Option.map_eq_some_iff] at hx ⊢
    obtain ⟨p, hp, hx⟩ := hx
    exact ⟨p, pl_mono h hp, hx⟩
  | .fn f a b, x, hx => by
    simp only [conc, Option.bind_eq_some_iff, Option.map_eq_some_iff] at hx ⊢
    obtain ⟨u, hu, w, hw, hx⟩ := hx
    exact ⟨u, concL_mono h a u hu, w, concL_mono h b w hw, hx⟩
  | .iface t v, x, hx => by
    simp only [conc, Option.map_eq_some_iff] at hx ⊢
    obtain ⟨p, hp, hx⟩ := hx
    exact ⟨p, conc_mono h v p hp, hx⟩
  | .agg l, x, hx => by
    simp only [conc, Option.map_eq_some_iff] at hx ⊢
    obtain ⟨p, hp, hx⟩ := hx
    exact ⟨p, concL_mono h l p hp, hx⟩
  | .tup l, x, hx => by
    simp only [conc, Option.map_eq_some_iff] at hx ⊢
    obtain ⟨p, hp, hx⟩ := hx
    exact ⟨p, concL_mono h l p hp, hx⟩
  | .raw v, x, hx => by simpa [conc] using hx
  | .opq v, x, hx => by simpa [conc] using hx
theorem concL_mono (h : φ <+: φ') : ∀ (v : List AV) (x : List Value), concL φ ρ v = some x → concL φ' ρ v = some x
  | [], x, hx => by simpa [concL] using hx
  | v :: l, x, hx => by
    simp only [concL, Option.bind_eq_some_iff, Option.map_eq_some_iff] at hx ⊢
    obtain ⟨u, hu, w, hw, hx⟩ := hx
    exact ⟨u, conc_mono h v u hu, w, concL_mono h l w hw, hx⟩
end

theorem concL_cons {v : AV} {l : List AV} {xs : List Value} : concL φ ρ (v :: l) = some xs ↔ ∃ x ys, conc φ ρ v = some x ∧ concL φ ρ l = some ys ∧ xs = x :: ys := by
  simp only [concL, Option.bind_eq_some_iff, Option.map_eq_some_iff]
  constructor
  · rintro ⟨a, h1, b, h2, rfl⟩; exact ⟨a, b, h1, h2, rfl⟩
  · rintro ⟨a, b, h1, h2, rfl⟩; exact ⟨a, h1, b, h2, rfl⟩
theorem concL_length : ∀ {l : List AV} {xs : List Value}, concL φ ρ l = some xs → xs.length = l.length
  | [], xs, h => by simp [concL] at h; simp [← h]
  | v :: l, xs, h => by
    obtain ⟨x, ys, _, h2, rfl⟩ := concL_cons.1 h
    simp [concL_length h2]
theorem concL_append : ∀ {l m : List AV} {xs : List Value}, concL φ ρ (l ++ m) = some xs ↔ ∃ ys zs, concL φ ρ l = some ys ∧ concL φ ρ m = some zs ∧ xs = ys ++ zs
  | [], m, xs => by simp [concL]
  | v :: l, m, xs => by
    rw [List.cons_append, concL_cons]
    constructor
    · rintro ⟨x, ys, h1, h2, rfl⟩
      obtain ⟨as, bs, h3, h4, rfl⟩ := concL_append.1 h2
      exact ⟨x :: as, bs, concL_cons.2 ⟨x, as, h1, h3, rfl⟩, h4, rfl⟩
    · rintro ⟨as, bs, h1, h2, rfl⟩
      obtain ⟨x, ys, h3, h4, rfl⟩ := concL_cons.1 h1
      exact ⟨x, ys ++ bs, h3, concL_append.2 ⟨ys, bs, h4, h2, rfl⟩, rfl⟩
theorem concL_get : ∀ {l : List AV} {xs : List Value} {i : Nat} {v : AV}, concL φ ρ l = some xs → l[i]? = some v → ∃ x, conc φ ρ v = some x ∧ xs[i]? = some x
  | [], xs, i, v, _, h => by simp at h
  | u :: l, xs, i, v, h, hi => by
    obtain ⟨x, ys, h1, h2, rfl⟩ := concL_cons.1 h
    cases i with
    | zero => simp at hi; subst hi; exact ⟨x, h1, rfl⟩
    | succ i => simp at hi; simpa using concL_get h2 hi
theorem concL_drop : ∀ {l : List AV} {xs : List Value} (n : Nat), concL φ ρ l = some xs → concL φ ρ (l.drop n) = some (xs.drop n)
  | l, xs, 0, h => by simpa using h
  | [], xs, n + 1, h => by simp [concL] at h; subst h; simp [concL]
  | v :: l, xs, n + 1, h => by
    obtain ⟨x, ys, h1, h2, rfl⟩ := concL_cons.1 h
    simpa using concL_drop n h2
theorem concL_take : ∀ {l : List AV} {xs : List Value} (n : Nat), concL φ ρ l = some xs → concL φ ρ (l.take n) = some (xs.take n)
  | l, xs, 0, h => by simp [concL]
  | [], xs, n + 1, h => by simp [concL] at h; subst h; simp [concL]
  | v :: l, xs, n + 1, h => by
    obtain ⟨x, ys, h1, h2, rfl⟩ := concL_cons.1 h
    rw [List.take_succ_cons, List.take_succ_cons]
    exact concL_cons.2 ⟨x, _, h1, concL_take n h2, rfl⟩

theorem conc_ofCell (v : Value) : conc φ ρ (ofCell v) = some v := by
  cases v <;> simp [ofCell, conc, SI.ev, SB.ev]
theorem concL_ofCell : ∀ (l : List Value), concL φ ρ (l.map ofCell) = some l
  | [] => rfl
  | v :: l => concL_cons.2 ⟨v, l, conc_ofCell v, concL_ofCell l, rfl⟩
theorem conc_ofValue (v : Value) : conc φ ρ (ofValue v) = some v := by
  unfold ofValue
  split
  · simp [conc, concL_ofCell]
  · simp [conc, concL_ofCell]
  · exact conc_ofCell v
theorem conc_undef : conc φ ρ undefA = some undef := rfl
end

end Go.Proofs.Ytdklpcjipkhenaa
