/-
  Ropes: what is reckoned of bytes whose number is a letter's.
-/
import Derived.Test.YticednpolhnneaaGreatSxd
set_option linter.unusedVariables false
set_option linter.unusedSimpArgs false
namespace Go.Proofs.YticednpolhnneaaGreat
open Go

section
variable {D : Dn}
theorem nnB_ok {rg : List (Int × Int)} {e : SI} (h : nnB rg e = true) {ρ : Nat → Int} (hr : RgOk ρ rg) : 0 ≤ e.ev ρ ∧ e.ev ρ ≤ 2305843009213693952 := by
  unfold nnB at h
  cases hx : rngS rg e with
  | none => rw [hx] at h; cases h
  | some r =>
    obtain ⟨l, u⟩ := r
    rw [hx] at h
    have h : (pos0 l && leF u big62) = true := h
    simp only [Bool.and_eq_true, pos0_eq, leF_eq, decide_eq_true_eq] at h
    have hin := rngS_in hr e l u hx
    have h2 : u ≤ 2305843009213693952 := h.2
    omega
theorem leD_inv {pc : PC} {a b : SI} {κ : Bool → PC → R} (h : leD pc a b κ ∈ D) : ∃ c pc', κ c pc' ∈ D ∧ PcExt pc pc' ∧ ∀ ρ, Holds ρ pc' → (c = true ↔ a.ev ρ ≤ b.ev ρ) := by
  unfold leD at h
  obtain ⟨e, he, hev⟩ := cmpK_spec .leq a b fun c => decK pc c κ
  rw [he] at h
  obtain ⟨c, pc', h1, hx, h2⟩ := decK_inv h
  refine ⟨c, pc', h1, hx, fun ρ hρ => ?_⟩
  rw [← h2 ρ hρ, hev]
  simp [cmpZ]
theorem binAdd_ev {x y : Int} (h1 : 0 ≤ x) (h2 : x ≤ 2305843009213693952) (h3 : 0 ≤ y) (h4 : y ≤ 2305843009213693952 - 1) : binZ .add .i64 x y = x + y := wrap_in (k := .i64) ⟨by show (-9223372036854775808 : Int) ≤ _; omega, by show _ ≤ (9223372036854775807 : Int); omega⟩
/-- the same up to 2^64, and an int64 -/
def Same64 (x y : Int) : Prop := -9223372036854775808 ≤ x ∧ x ≤ 9223372036854775807 ∧ ∃ q : Int, x = y + q * 18446744073709551616
theorem wrap64_same (n : Int) : Same64 (IntKind.i64.wrap n) n := by
  have h : IntKind.i64.wrap n = (n + 9223372036854775808) % 18446744073709551616 - 9223372036854775808 := by
    simp only [IntKind.wrap, IntKind.bits, IntKind.signed]
    simp
    split <;> omega
  unfold Same64
  rw [h]
  refine ⟨by omega, by omega, -((n + 9223372036854775808) / 18446744073709551616), ?_⟩
  omega
/-- what it is, up to 2^64 -/
theorem linF_inv {a : SI} {κ0 : Int → R} {κp κm : SI → Int → R} (h : linF a κ0 κp κm ∈ D) : (∃ n, κ0 n ∈ D ∧ ∀ ρ, ∃ q : Int, a.ev ρ = n + q * 18446744073709551616) ∨ (∃ x c, κp x c ∈ D ∧ ∀ ρ, ∃ q : Int, a.ev ρ = x.ev ρ + c + q * 18446744073709551616) ∨ (∃ x c, κm x c ∈ D ∧ ∀ ρ, ∃ q : Int, a.ev ρ = c - x.ev ρ + q * 18446744073709551616) := by
  unfold linF at h
  split at h
  · exact .inl ⟨_, h, fun ρ => ⟨0, by simp [SI.ev]⟩⟩
  · refine .inr (.inl ⟨_, _, h, fun ρ => ?_⟩)
    obtain ⟨_, _, q, e⟩ := wrap64_same (SI.ev ρ _ + SI.ev ρ (.lit _))
    exact ⟨q, e⟩
  · rename_i c x d
    rw [forceI_eq] at h
    refine .inr (.inr ⟨_, _, h, fun ρ => ?_⟩)
    obtain ⟨_, _, q, e⟩ := wrap64_same (c - (IntKind.i64.wrap (x.ev ρ + d)))
    obtain ⟨_, _, q2, e2⟩ := wrap64_same (x.ev ρ + d)
    refine ⟨q - q2, ?_⟩
    show IntKind.i64.wrap (c - (IntKind.i64.wrap (x.ev ρ + d))) = c - d - x.ev ρ + (q - q2) * 18446744073709551616
    rw [e, e2]
    omega
  · rename_i c x _
    refine .inr (.inr ⟨_, _, h, fun ρ => ?_⟩)
    obtain ⟨_, _, q, e⟩ := wrap64_same (c - x.ev ρ)
    exact ⟨q, e⟩
  · refine .inr (.inl ⟨_, _, h, fun ρ => ⟨0, ?_⟩⟩)
    show _ = _ + (0 : Int) + _
    omega
theorem wrapF64 (n : Int) : wrapF .i64 n = IntKind.i64.wrap n := wrapF_eq .i64 n
theorem litF_inv {n : Int} {κ : SI → R} (h : litF n κ ∈ D) : ∃ e, κ e ∈ D ∧ ∀ ρ, Same64 (e.ev ρ) n := by
  unfold litF at h
  rw [forceI_eq, wrapF64] at h
  exact ⟨_, h, fun ρ => wrap64_same n⟩
theorem mnF_inv {n : Int} {x : SI} {κ : SI → R} (h : mnF n x κ ∈ D) : ∃ e, κ e ∈ D ∧ ∀ ρ, Same64 (e.ev ρ) (n - x.ev ρ) := by
  unfold mnF at h
  rw [forceI_eq, wrapF64] at h
  refine ⟨_, h, fun ρ => ?_⟩
  obtain ⟨h1, h2, q, e⟩ := wrap64_same (IntKind.i64.wrap n - x.ev ρ)
  obtain ⟨_, _, q2, e2⟩ := wrap64_same n
  exact ⟨h1, h2, q + q2, by show IntKind.i64.wrap (IntKind.i64.wrap n - x.ev ρ) = _; rw [e, e2]; omega⟩
theorem adF_inv {n : Int} {x : SI} {κ : SI → R} (h : adF x n κ ∈ D) : ∃ e, κ e ∈ D ∧ ∀ ρ, Same64 (e.ev ρ) (x.ev ρ + n) := by
  unfold adF at h
  rw [forceI_eq, wrapF64] at h
  refine ⟨_, h, fun ρ => ?_⟩
  obtain ⟨h1, h2, q, e⟩ := wrap64_same (x.ev ρ + IntKind.i64.wrap n)
  obtain ⟨_, _, q2, e2⟩ := wrap64_same n
  exact ⟨h1, h2, q + q2, by show IntKind.i64.wrap (x.ev ρ + IntKind.i64.wrap n) = _; rw [e, e2]; omega⟩
theorem Same64.of {x y z : Int} (h : Same64 x y) (hz : ∃ q : Int, z = y + q * 18446744073709551616) : Same64 x z := by
  obtain ⟨h1, h2, q, e⟩ := h
  obtain ⟨q2, e2⟩ := hz
  exact ⟨h1, h2, q - q2, by omega⟩
theorem binK64 {op : BinOp} {a b : SI} {κ : SI → R} (h : binK op .i64 a b κ ∈ D) : ∃ e, κ e ∈ D ∧ ∀ ρ, e.ev ρ = binZ op .i64 (a.ev ρ) (b.ev ρ) := by
  obtain ⟨e, he, hev⟩ := binK_spec op .i64 a b κ
  rw [he] at h
  exact ⟨e, h, hev⟩
theorem addK_inv {a b : SI} {κ : SI → R} (h : binK .add .i64 a b κ ∈ D) : ∃ e, κ e ∈ D ∧ ∀ ρ, Same64 (e.ev ρ) (a.ev ρ + b.ev ρ) := by
  obtain ⟨e, h1, h2⟩ := binK64 h
  exact ⟨e, h1, fun ρ => by rw [h2]; exact wrap64_same _⟩
theorem subK_inv {a b : SI} {κ : SI → R} (h : binK .sub .i64 a b κ ∈ D) : ∃ e, κ e ∈ D ∧ ∀ ρ, Same64 (e.ev ρ) (a.ev ρ - b.ev ρ) := by
  obtain ⟨e, h1, h2⟩ := binK64 h
  exact ⟨e, h1, fun ρ => by rw [h2]; exact wrap64_same _⟩
theorem plL_inv {a b : SI} {κ : SI → R} (h : plL a b κ ∈ D) : ∃ e, κ e ∈ D ∧ ∀ ρ, Same64 (e.ev ρ) (a.ev ρ + b.ev ρ) := by
  rcases linF_inv h with ⟨n, h, ha⟩ | ⟨x, c, h, ha⟩ | ⟨x, c, h, ha⟩
  · rcases linF_inv h with ⟨m, h, hb⟩ | ⟨y, d, h, hb⟩ | ⟨y, d, h, hb⟩
    · obtain ⟨e, h1, h2⟩ := litF_inv h
      refine ⟨e, h1, fun ρ => (h2 ρ).of ?_⟩
      obtain ⟨q, e1⟩ := ha ρ
      obtain ⟨q2, e2⟩ := hb ρ
      exact ⟨q + q2, by show _ = n + m + _; omega⟩
    · exact addK_inv h
    · obtain ⟨e, h1, h2⟩ := mnF_inv h
      refine ⟨e, h1, fun ρ => (h2 ρ).of ?_⟩
      obtain ⟨q, e1⟩ := ha ρ
      obtain ⟨q2, e2⟩ := hb ρ
      exact ⟨q + q2, by show _ = n + d - _ + _; omega⟩
  · rcases linF_inv h with ⟨m, h, hb⟩ | ⟨y, d, h, hb⟩ | ⟨y, d, h, hb⟩
    · exact addK_inv h
    · exact addK_inv h
    · rcases brec_cases h with ⟨hs, h⟩ | ⟨_, h⟩
      · obtain ⟨e, h1, h2⟩ := litF_inv h
        refine ⟨e, h1, fun ρ => (h2 ρ).of ?_⟩
        have hxy := SI.beq_eq _ _ hs
        subst hxy
        obtain ⟨q, e1⟩ := ha ρ
        obtain ⟨q2, e2⟩ := hb ρ
        exact ⟨q + q2, by show _ = c + d + _; omega⟩
      · exact addK_inv h
  · rcases linF_inv h with ⟨m, h, hb⟩ | ⟨y, d, h, hb⟩ | ⟨y, d, h, hb⟩
    · obtain ⟨e, h1, h2⟩ := mnF_inv h
      refine ⟨e, h1, fun ρ => (h2 ρ).of ?_⟩
      obtain ⟨q, e1⟩ := ha ρ
      obtain ⟨q2, e2⟩ := hb ρ
      exact ⟨q + q2, by show _ = c + m - _ + _; omega⟩
    · rcases brec_cases h with ⟨hs, h⟩ | ⟨_, h⟩
      · obtain ⟨e, h1, h2⟩ := litF_inv h
        refine ⟨e, h1, fun ρ => (h2 ρ).of ?_⟩
        have hxy := SI.beq_eq _ _ hs
        subst hxy
        obtain ⟨q, e1⟩ := ha ρ
        obtain ⟨q2, e2⟩ := hb ρ
        exact ⟨q + q2, by show _ = c + d + _; omega⟩
      · exact addK_inv h
    · exact addK_inv h
theorem mnL_inv {a b : SI} {κ : SI → R} (h : mnL a b κ ∈ D) : ∃ e, κ e ∈ D ∧ ∀ ρ, Same64 (e.ev ρ) (a.ev ρ - b.ev ρ) := by
  rcases linF_inv h with ⟨n, h, ha⟩ | ⟨x, c, h, ha⟩ | ⟨x, c, h, ha⟩
  · rcases linF_inv h with ⟨m, h, hb⟩ | ⟨y, d, h, hb⟩ | ⟨y, d, h, hb⟩
    · obtain ⟨e, h1, h2⟩ := litF_inv h
      refine ⟨e, h1, fun ρ => (h2 ρ).of ?_⟩
      obtain ⟨q, e1⟩ := ha ρ
      obtain ⟨q2, e2⟩ := hb ρ
      exact ⟨q - q2, by show _ = n - m + _; omega⟩
    · obtain ⟨e, h1, h2⟩ := mnF_inv h
      refine ⟨e, h1, fun ρ => (h2 ρ).of ?_⟩
      obtain ⟨q, e1⟩ := ha ρ
      obtain ⟨q2, e2⟩ := hb ρ
      exact ⟨q - q2, by show _ = n - d - _ + _; omega⟩
    · obtain ⟨e, h1, h2⟩ := adF_inv h
      refine ⟨e, h1, fun ρ => (h2 ρ).of ?_⟩
      obtain ⟨q, e1⟩ := ha ρ
      obtain ⟨q2, e2⟩ := hb ρ
      exact ⟨q - q2, by show _ = _ + (n - d) + _; omega⟩
  · rcases linF_inv h with ⟨m, h, hb⟩ | ⟨y, d, h, hb⟩ | ⟨y, d, h, hb⟩
    · exact subK_inv h
    · rcases brec_cases h with ⟨hs, h⟩ | ⟨_, h⟩
      · obtain ⟨e, h1, h2⟩ := litF_inv h
        refine ⟨e, h1, fun ρ => (h2 ρ).of ?_⟩
        have hxy := SI.beq_eq _ _ hs
        subst hxy
        obtain ⟨q, e1⟩ := ha ρ
        obtain ⟨q2, e2⟩ := hb ρ
        exact ⟨q - q2, by show _ = c - d + _; omega⟩
      · exact subK_inv h
    · exact subK_inv h
  · rcases linF_inv h with ⟨m, h, hb⟩ | ⟨y, d, h, hb⟩ | ⟨y, d, h, hb⟩
    · obtain ⟨e, h1, h2⟩ := mnF_inv h
      refine ⟨e, h1, fun ρ => (h2 ρ).of ?_⟩
      obtain ⟨q, e1⟩ := ha ρ
      obtain ⟨q2, e2⟩ := hb ρ
      exact ⟨q - q2, by show _ = c - m - _ + _; omega⟩
    · exact subK_inv h
    · rcases brec_cases h with ⟨hs, h⟩ | ⟨_, h⟩
      · obtain ⟨e, h1, h2⟩ := litF_inv h
        refine ⟨e, h1, fun ρ => (h2 ρ).of ?_⟩
        have hxy := SI.beq_eq _ _ hs
        subst hxy
        obtain ⟨q, e1⟩ := ha ρ
        obtain ⟨q2, e2⟩ := hb ρ
        exact ⟨q - q2, by show _ = c - d + _; omega⟩
      · exact subK_inv h
theorem plE_inv {pc : PC} {a b : SI} {κ : SI → R} (h : plE pc a b κ ∈ D) : ∃ e, κ e ∈ D ∧ ∀ ρ, RgOk ρ pc.rg → e.ev ρ = a.ev ρ + b.ev ρ ∧ 0 ≤ a.ev ρ ∧ 0 ≤ b.ev ρ := by
  obtain ⟨hb, h1⟩ := brec_inv h
  rw [Bool.and_eq_true] at hb
  have key : ∀ ρ, RgOk ρ pc.rg → 0 ≤ a.ev ρ ∧ 0 ≤ b.ev ρ := fun ρ hr => ⟨(nnB_ok hb.1 hr).1, (nnB_ok hb.2 hr).1⟩
  rcases brec_cases h1 with ⟨hz, h2⟩ | ⟨_, h2⟩
  · exact ⟨a, h2, fun ρ hr => ⟨by rw [isZ_ev hz]; omega, key ρ hr⟩⟩
  rcases brec_cases h2 with ⟨hz, h3⟩ | ⟨_, h1⟩
  · exact ⟨b, h3, fun ρ hr => ⟨by rw [isZ_ev hz]; omega, key ρ hr⟩⟩
  obtain ⟨e, h1, hev⟩ := plL_inv h1
  refine ⟨e, h1, fun ρ hr => ?_⟩
  obtain ⟨a1, a2⟩ := nnB_ok hb.1 hr
  obtain ⟨b1, b2⟩ := nnB_ok hb.2 hr
  refine ⟨?_, a1, b1⟩
  obtain ⟨e1, e2, q, e3⟩ := hev ρ
  omega
theorem mnE_inv {pc : PC} {a b : SI} {κ : SI → R} (h : mnE pc a b κ ∈ D) : ∃ e, κ e ∈ D ∧ ∀ ρ, RgOk ρ pc.rg → e.ev ρ = a.ev ρ - b.ev ρ ∧ 0 ≤ a.ev ρ ∧ 0 ≤ b.ev ρ := by
  obtain ⟨hb, h1⟩ := brec_inv h
  rw [Bool.and_eq_true] at hb
  have key : ∀ ρ, RgOk ρ pc.rg → 0 ≤ a.ev ρ ∧ 0 ≤ b.ev ρ := fun ρ hr => ⟨(nnB_ok hb.1 hr).1, (nnB_ok hb.2 hr).1⟩
  rcases brec_cases h1 with ⟨hz, h2⟩ | ⟨_, h2⟩
  · exact ⟨a, h2, fun ρ hr => ⟨by rw [isZ_ev hz]; omega, key ρ hr⟩⟩
  rcases brec_cases h2 with ⟨hz, h3⟩ | ⟨_, h1⟩
  · exact ⟨zeroS, h3, fun ρ hr => ⟨by rw [SI.beq_eq _ _ hz]; show (0 : Int) = _; omega, key ρ hr⟩⟩
  obtain ⟨e, h1, hev⟩ := mnL_inv h1
  refine ⟨e, h1, fun ρ hr => ?_⟩
  obtain ⟨a1, a2⟩ := nnB_ok hb.1 hr
  obtain ⟨b1, b2⟩ := nnB_ok hb.2 hr
  refine ⟨?_, a1, b1⟩
  obtain ⟨e1, e2, q, e3⟩ := hev ρ
  omega
theorem takeS_inv : ∀ {n : Nat} {l : List SI} {κ : List SI → R}, takeS l n κ ∈ D → κ (l.take n) ∈ D ∧ n ≤ l.length
  | 0, l, κ, h => ⟨h, Nat.zero_le _⟩
  | n + 1, [], κ, h => by cases h
  | n + 1, v :: l, κ, h => by
    obtain ⟨h1, h2⟩ := takeS_inv (n := n) (l := l) (κ := fun r => κ (v :: r)) h
    exact ⟨h1, by simp only [List.length_cons]; omega⟩
theorem litN_inv {e : SI} {κ : Nat → R} (h : litN e κ ∈ D) : ∃ n : Nat, e = .lit (.ofNat n) ∧ κ n ∈ D := by
  cases e with
  | lit n =>
    cases n with
    | ofNat n => exact ⟨n, rfl, h⟩
    | negSucc n => cases h
  | var i => cases h
  | bin _ _ _ _ => cases h
  | conv _ _ => cases h
  | fold _ => cases h
  | rs _ _ _ _ => cases h
theorem lenH_inv {c : Ch} {κ : SI → R} (h : lenH c κ ∈ D) : ∃ m, κ m ∈ D ∧ ∀ ρ, (c.zs ρ).length = (m.ev ρ).toNat := by
  cases c with
  | bs l =>
    have h : forceN (lenSI l) (fun n => κ (natS n)) ∈ D := h
    rw [forceN_eq] at h
    refine ⟨_, h, fun ρ => ?_⟩
    simp only [Ch.zs, List.length_map, natS, SI.ev, lenSI_eq]
    rfl
  | fil n v => exact ⟨n, h, fun ρ => by simp [Ch.zs]⟩
  | row a o n => exact ⟨n, h, fun ρ => by simp [Ch.zs]⟩
theorem cutC_inv {c : Ch} {n : SI} {κ : Ch → R} (h : cutC c n κ ∈ D) : ∃ c', κ c' ∈ D ∧ ∀ ρ, 0 ≤ n.ev ρ → (n.ev ρ).toNat ≤ (c.zs ρ).length → c'.zs ρ = (c.zs ρ).take (n.ev ρ).toNat := by
  cases c with
  | bs l =>
    obtain ⟨k, rfl, h1⟩ := litN_inv (show litN n (fun n => takeS l n fun l => κ (.bs l)) ∈ D from h)
    obtain ⟨h2, h3⟩ := takeS_inv h1
    refine ⟨_, h2, fun ρ _ _ => ?_⟩
    simp only [Ch.zs, SI.ev, List.map_take]
    rfl
  | fil m v =>
    refine ⟨_, h, fun ρ h1 h2 => ?_⟩
    simp only [Ch.zs, List.length_replicate] at h2 ⊢
    rw [List.take_replicate, Nat.min_eq_left h2]
  | row a o m =>
    refine ⟨_, h, fun ρ h1 h2 => ?_⟩
    simp only [Ch.zs, List.length_map, List.length_range] at h2 ⊢
    rw [← List.map_take, List.take_range, Nat.min_eq_left h2]
theorem range_drop (k m : Nat) (f : Nat → Int) : ((List.range m).map f).drop k = (List.range (m - k)).map fun i => f (k + i) := by
  apply List.ext_getElem?
  intro i
  simp only [List.getElem?_drop, List.getElem?_map]
  by_cases h : k + i < m
  · rw [List.getElem?_range h, List.getElem?_range (by omega)]; rfl
  · rw [List.getElem?_eq_none (by simp; omega), List.getElem?_eq_none (by simp; omega)]; rfl
theorem tailC_inv {c : Ch} {pc : PC} {n : SI} {κ : Ch → R} (h : tailC c pc n κ ∈ D) : ∃ c', κ c' ∈ D ∧ ∀ ρ, RgOk ρ pc.rg → 0 ≤ n.ev ρ → (n.ev ρ).toNat ≤ (c.zs ρ).length → c'.zs ρ = (c.zs ρ).drop (n.ev ρ).toNat := by
  cases c with
  | bs l =>
    obtain ⟨k, rfl, h1⟩ := litN_inv (show litN n (fun n => dropS l n fun l => κ (.bs l)) ∈ D from h)
    obtain ⟨h2, h3⟩ := dropS_inv h1
    refine ⟨_, h2, fun ρ _ _ _ => ?_⟩
    simp only [Ch.zs, SI.ev, List.map_drop]
    rfl
  | fil m v =>
    obtain ⟨e, h1, h2⟩ := mnE_inv (show mnE pc m n (fun m => κ (.fil m v)) ∈ D from h)
    refine ⟨_, h1, fun ρ hr h3 h4 => ?_⟩
    obtain ⟨e1, e2, e3⟩ := h2 ρ hr
    simp only [Ch.zs, List.length_replicate] at h4 ⊢
    rw [List.drop_replicate, e1]
    congr 1
    omega
  | row a o m =>
    obtain ⟨e, h1, h2⟩ := plE_inv (show plE pc o n (fun o => mnE pc m n fun m => κ (.row a o m)) ∈ D from h)
    obtain ⟨e', h1', h2'⟩ := mnE_inv h1
    refine ⟨_, h1', fun ρ hr h3 h4 => ?_⟩
    obtain ⟨e1, e2, e3⟩ := h2 ρ hr
    obtain ⟨f1, f2, f3⟩ := h2' ρ hr
    simp only [Ch.zs, List.length_map, List.length_range] at h4 ⊢
    rw [range_drop, f1, e1, show (m.ev ρ - n.ev ρ).toNat = (m.ev ρ).toNat - (n.ev ρ).toNat by omega]
    apply List.map_congr_left
    intro i _
    congr 1
    omega
theorem dropR_inv : ∀ {cs : List Ch} {a : SI} {pc : PC} {κ : List Ch → PC → R}, dropR cs a pc κ ∈ D → ∃ cs' pc', κ cs' pc' ∈ D ∧ PcExt pc pc' ∧ ∀ ρ, Holds ρ pc' → 0 ≤ a.ev ρ ∧ (a.ev ρ).toNat ≤ (ropeZ ρ cs).length ∧ ropeZ ρ cs' = (ropeZ ρ cs).drop (a.ev ρ).toNat
  | [], a, pc, κ, h => by
    obtain ⟨hz, h1⟩ := brec_inv (show Bool.rec (motive := fun _ => R) (.fail 406) (κ [] pc) (isZ a) ∈ D from h)
    refine ⟨[], pc, h1, .refl _, fun ρ _ => ?_⟩
    rw [isZ_ev hz]
    exact ⟨Int.le_refl _, Nat.zero_le _, rfl⟩
  | c :: cs, a, pc, κ, h => by
    rcases brec_cases (show Bool.rec (motive := fun _ => R) (lenH c fun m => Bool.rec (motive := fun _ => R) (.fail 407) (leD pc m a fun b pc => Bool.rec (motive := fun _ => R) (tailC c pc a fun c => κ (c :: cs) pc) (mnE pc a m fun a => dropR cs a pc κ) b) (nnB pc.rg m && nnB pc.rg a)) (κ (c :: cs) pc) (isZ a) ∈ D from h) with ⟨hz, h1⟩ | ⟨_, h1⟩
    · refine ⟨_, pc, h1, .refl _, fun ρ _ => ?_⟩
      rw [isZ_ev hz]
      exact ⟨Int.le_refl _, Nat.zero_le _, rfl⟩
    · obtain ⟨m, h2, hm⟩ := lenH_inv h1
      obtain ⟨hb, h3⟩ := brec_inv h2
      rw [Bool.and_eq_true] at hb
      obtain ⟨b, pc1, h4, x1, hle⟩ := leD_inv h3
      have hrg : ∀ {ρ} {pc2 : PC}, PcExt pc1 pc2 → Holds ρ pc2 → RgOk ρ pc.rg := fun {ρ pc2} x hρ => by
        have := hρ.rg
        rw [x.rg, x1.rg] at this
        exact this
      rcases brec_cases h4 with ⟨rfl, h5⟩ | ⟨rfl, h5⟩
      · obtain ⟨a', h6, ha⟩ := mnE_inv h5
        obtain ⟨cs', pc2, h7, x2, h8⟩ := dropR_inv h6
        refine ⟨cs', pc2, h7, x1.trans x2, fun ρ hρ => ?_⟩
        obtain ⟨m1, _⟩ := nnB_ok hb.1 (hrg x2 hρ)
        obtain ⟨a1, _⟩ := nnB_ok hb.2 (hrg x2 hρ)
        have hma := (hle ρ (hρ.of_ext x2)).1 rfl
        obtain ⟨e1, _, _⟩ := ha ρ (by rw [x1.rg]; exact hrg x2 hρ)
        obtain ⟨e2, e3, e4⟩ := h8 ρ hρ
        have hl := hm ρ
        rw [e1] at e3 e4
        rw [ropeZ_cons, List.length_append, hl]
        refine ⟨a1, by omega, ?_⟩
        have hd : (c.zs ρ).drop (a.ev ρ).toNat = [] := List.drop_eq_nil_of_le (by rw [hl]; omega)
        rw [e4, List.drop_append, hl, hd, List.nil_append]
        congr 1
        omega
      · obtain ⟨c', h6, ha⟩ := tailC_inv h5
        refine ⟨_, pc1, h6, x1, fun ρ hρ => ?_⟩
        obtain ⟨m1, _⟩ := nnB_ok hb.1 (hrg (.refl _) hρ)
        obtain ⟨a1, _⟩ := nnB_ok hb.2 (hrg (.refl _) hρ)
        have hma : ¬ m.ev ρ ≤ a.ev ρ := fun hh => by cases (hle ρ hρ).2 hh
        have hl := hm ρ
        have hc := ha ρ hρ.rg a1 (by rw [hl]; omega)
        rw [ropeZ_cons, ropeZ_cons, List.length_append, hl]
        refine ⟨a1, by omega, ?_⟩
        rw [hc, List.drop_append, hl, show (a.ev ρ).toNat - (m.ev ρ).toNat = 0 by omega, List.drop_zero]
theorem takeR_inv : ∀ {cs : List Ch} {a : SI} {pc : PC} {κ : List Ch → PC → R}, takeR cs a pc κ ∈ D → ∃ cs' pc', κ cs' pc' ∈ D ∧ PcExt pc pc' ∧ ∀ ρ, Holds ρ pc' → 0 ≤ a.ev ρ ∧ (a.ev ρ).toNat ≤ (ropeZ ρ cs).length ∧ ropeZ ρ cs' = (ropeZ ρ cs).take (a.ev ρ).toNat
  | [], a, pc, κ, h => by
    obtain ⟨hz, h1⟩ := brec_inv (show Bool.rec (motive := fun _ => R) (.fail 408) (κ [] pc) (isZ a) ∈ D from h)
    refine ⟨[], pc, h1, .refl _, fun ρ _ => ?_⟩
    rw [isZ_ev hz]
    exact ⟨Int.le_refl _, Nat.zero_le _, rfl⟩
  | c :: cs, a, pc, κ, h => by
    rcases brec_cases (show Bool.rec (motive := fun _ => R) (lenH c fun m => Bool.rec (motive := fun _ => R) (.fail 409) (leD pc m a fun b pc => Bool.rec (motive := fun _ => R) (cutC c a fun c => κ [c] pc) (mnE pc a m fun n => takeR cs n pc fun r pc => κ (c :: r) pc) b) (nnB pc.rg m && nnB pc.rg a)) (κ [] pc) (isZ a) ∈ D from h) with ⟨hz, h1⟩ | ⟨_, h1⟩
    · refine ⟨_, pc, h1, .refl _, fun ρ _ => ?_⟩
      rw [isZ_ev hz]
      exact ⟨Int.le_refl _, Nat.zero_le _, rfl⟩
    · obtain ⟨m, h2, hm⟩ := lenH_inv h1
      obtain ⟨hb, h3⟩ := brec_inv h2
      rw [Bool.and_eq_true] at hb
      obtain ⟨b, pc1, h4, x1, hle⟩ := leD_inv h3
      have hrg : ∀ {ρ} {pc2 : PC}, PcExt pc1 pc2 → Holds ρ pc2 → RgOk ρ pc.rg := fun {ρ pc2} x hρ => by
        have := hρ.rg
        rw [x.rg, x1.rg] at this
        exact this
      rcases brec_cases h4 with ⟨rfl, h5⟩ | ⟨rfl, h5⟩
      · obtain ⟨a', h6, ha⟩ := mnE_inv h5
        obtain ⟨cs', pc2, h7, x2, h8⟩ := takeR_inv h6
        refine ⟨_, pc2, h7, x1.trans x2, fun ρ hρ => ?_⟩
        obtain ⟨m1, _⟩ := nnB_ok hb.1 (hrg x2 hρ)
        obtain ⟨a1, _⟩ := nnB_ok hb.2 (hrg x2 hρ)
        have hma := (hle ρ (hρ.of_ext x2)).1 rfl
        obtain ⟨e1, _, _⟩ := ha ρ (by rw [x1.rg]; exact hrg x2 hρ)
        obtain ⟨e2, e3, e4⟩ := h8 ρ hρ
        have hl := hm ρ
        rw [e1] at e3 e4
        rw [ropeZ_cons, ropeZ_cons, List.length_append, hl]
        refine ⟨a1, by omega, ?_⟩
        have hd : (c.zs ρ).take (a.ev ρ).toNat = c.zs ρ := List.take_of_length_le (by rw [hl]; omega)
        rw [e4, List.take_append, hl, hd]
        congr 2
        omega
      · obtain ⟨c', h6, ha⟩ := cutC_inv h5
        refine ⟨_, pc1, h6, x1, fun ρ hρ => ?_⟩
        obtain ⟨m1, _⟩ := nnB_ok hb.1 (hrg (.refl _) hρ)
        obtain ⟨a1, _⟩ := nnB_ok hb.2 (hrg (.refl _) hρ)
        have hma : ¬ m.ev ρ ≤ a.ev ρ := fun hh => by cases (hle ρ hρ).2 hh
        have hl := hm ρ
        have hc := ha ρ a1 (by rw [hl]; omega)
        rw [ropeZ_cons, ropeZ_cons, ropeZ_nil, List.append_nil, List.length_append, hl]
        refine ⟨a1, by omega, ?_⟩
        rw [hc, List.take_append, hl, show (a.ev ρ).toNat - (m.ev ρ).toNat = 0 by omega, List.take_zero, List.append_nil]
end

/-! what a slice holds -/
theorem byteS_inv {D : Dn} : ∀ {l : List AV} {κ : List SI → R}, byteS l κ ∈ D → ∃ es, κ es ∈ D ∧ l = es.map fun e => .int .u8 e
  | [], κ, h => ⟨[], h, rfl⟩
  | v :: l, κ, h => by
    obtain ⟨k, e, rfl, h1⟩ := intV_inv (show intV v (nat_lit 410) (fun k e => Bool.rec (motive := fun _ => R) (.fail 411) (byteS l fun r => κ (e :: r)) (kindEq k .u8)) ∈ D from h)
    obtain ⟨hk, h2⟩ := brec_inv h1
    obtain rfl := kindEq_of hk
    obtain ⟨es, h3, rfl⟩ := byteS_inv h2
    exact ⟨e :: es, h3, rfl⟩
theorem defU_some {d : Option AV} {e : SI} (h : defU d = some e) : d = some (.int .u8 e) := by
  unfold defU at h
  split at h
  · cases h; rfl
  · cases h
theorem nilT_nil {c : Tr AV} (h : nilT c = true) : c = .nil := by
  cases c with
  | nil => rfl
  | node _ _ _ => cases h
/-- bytes that stand in a row, from a place on -/
def BytesAt (w : World) (b o : Nat) (zs : List Int) : Prop := ∀ i z, zs[i]? = some z → w.cell? ⟨b, o + i, none⟩ = some (.int .u8 z)
theorem cellR_inv {D : Dn} {c : Tr AV} {d : Option AV} {off len : Nat} {κ : List Ch → R} (h : cellR c d off len κ ∈ D) : ∃ cs, κ cs ∈ D ∧ (∀ ρ, (ropeZ ρ cs).length = len) ∧ ∀ {P : Program} {φ : List Pl} {ρ : Nat → Int} {w : World} {p : Pl} {arr : Array Value} {fz : Nat × Nat} {n : Nat} {T : TypeId} {row : Bool}, CelOk P φ ρ w p arr fz n c d T row → off + len ≤ n → BytesAt w p.blk (p.sh + off) (ropeZ ρ cs) := by
  have gen : ∀ {κ : List Ch → R}, (ldN c d off len fun l => byteS l fun es => κ [.bs es]) ∈ D → ∃ cs, κ cs ∈ D ∧ (∀ ρ, (ropeZ ρ cs).length = len) ∧ ∀ {P : Program} {φ : List Pl} {ρ : Nat → Int} {w : World} {p : Pl} {arr : Array Value} {fz : Nat × Nat} {n : Nat} {T : TypeId} {row : Bool}, CelOk P φ ρ w p arr fz n c d T row → off + len ≤ n → BytesAt w p.blk (p.sh + off) (ropeZ ρ cs) := by
    intro κ h
    obtain ⟨l, hl, h1, hcl⟩ := ldN_inv h
    obtain ⟨es, h2, rfl⟩ := byteS_inv h1
    rw [List.length_map] at hl
    refine ⟨_, h2, fun ρ => by simp [ropeZ_cons, ropeZ_nil, Ch.zs, hl], fun {P φ ρ w p arr fz n T row} hc hle i z hz => ?_⟩
    rw [ropeZ_cons, ropeZ_nil, List.append_nil] at hz
    simp only [Ch.zs, List.getElem?_map, Option.map_eq_some_iff] at hz
    obtain ⟨e, he, rfl⟩ := hz
    have hi : i < len := by
      have := (List.getElem?_eq_some_iff.1 he).1
      omega
    obtain ⟨v, x, h3, h4, h5, _⟩ := hc.cell (off + i) (by omega)
    have h6 := hcl i hi
    rw [List.getElem?_map, he, h3] at h6
    cases h6
    simp only [conc, Option.some.injEq] at h4
    subst h4
    simp only [World.cell?, hc.blk]
    show arr[p.sh + off + i]? = _
    rw [Nat.add_assoc]
    exact h5
  unfold cellR at h
  split at h
  · rename_i e hd
    rcases brec_cases h with ⟨hn, h1⟩ | ⟨_, h1⟩
    · refine ⟨_, h1, fun ρ => by simp [ropeZ_cons, ropeZ_nil, Ch.zs, natS, SI.ev], fun {P φ ρ w p arr fz n T row} hc hle i z hz => ?_⟩
      rw [ropeZ_cons, ropeZ_nil, List.append_nil] at hz
      simp only [Ch.zs, natS, SI.ev] at hz
      have hi := (List.getElem?_eq_some_iff.1 hz).1
      simp only [List.length_replicate] at hi
      have hi : i < len := hi
      rw [List.getElem?_replicate_of_lt (by simpa using hi)] at hz
      cases hz
      obtain ⟨v, x, h3, h4, h5, _⟩ := hc.cell (off + i) (by omega)
      have hce : celA c d (off + i) = some (.int .u8 e) := by
        rw [nilT_nil hn, defU_some hd]
        unfold celA
        rw [Tr.get_nil]
      rw [hce] at h3
      cases h3
      simp only [conc, Option.some.injEq] at h4
      subst h4
      simp only [World.cell?, hc.blk]
      show arr[p.sh + off + i]? = _
      rw [Nat.add_assoc]
      exact h5
    · exact gen h1
  · exact gen h
theorem readO_inv {D : Dn} {o : AObj} {pc : PC} {off len : SI} {κ : List Ch → PC → R} (h : readO o pc off len κ ∈ D) : ∃ cs pc', κ cs pc' ∈ D ∧ PcExt pc pc' ∧ live o = true ∧ ∀ {P : Program} {φ : List Pl} {ρ : Nat → Int} {w : World} {id : Nat} {p : Pl}, Holds ρ pc' → ObjOk P φ ρ w id o → φ[id]? = some p →
    0 ≤ off.ev ρ ∧ 0 ≤ len.ev ρ ∧ p.sh + (off.ev ρ).toNat + (len.ev ρ).toNat ≤ p.sz ∧ (ropeZ ρ cs).length = (len.ev ρ).toNat ∧ BytesAt w p.blk (p.sh + (off.ev ρ).toNat) (ropeZ ρ cs) := by
  unfold readO at h
  split at h
  · rename_i ws T r
    obtain ⟨cs1, pc1, h1, x1, h2⟩ := dropR_inv h
    obtain ⟨cs2, pc2, h3, x2, h4⟩ := takeR_inv h1
    refine ⟨cs2, pc2, h3, x1.trans x2, rfl, fun {P φ ρ w id p} hρ ho hp => ?_⟩
    obtain ⟨a1, a2, a3⟩ := h2 ρ (hρ.of_ext x2)
    obtain ⟨b1, b2, b3⟩ := h4 ρ hρ
    obtain ⟨p', arr, fz, hp', hc⟩ := ho
    rw [hp] at hp'; cases hp'
    rw [a3, List.length_drop] at b2
    have hle := hc.le
    refine ⟨a1, b1, by omega, ?_, fun i z hz => ?_⟩
    · rw [b3, a3, List.length_take, List.length_drop]; omega
    · rw [b3, a3, List.getElem?_take] at hz
      split at hz
      · rw [List.getElem?_drop] at hz
        have := hc.cell _ _ hz
        simp only [World.cell?, hc.blk]
        show arr[p.sh + (off.ev ρ).toNat + i]? = _
        rw [Nat.add_assoc]
        exact this
      · cases hz
  · rename_i n c d T r
    obtain ⟨o1, rfl, h1⟩ := litN_inv h
    obtain ⟨l1, rfl, h2⟩ := litN_inv h1
    obtain ⟨hle, h3⟩ := brec_inv h2
    rw [natBle] at hle
    have hle : o1 + l1 ≤ n := of_decide_eq_true hle
    obtain ⟨cs, h4, hlen, h5⟩ := cellR_inv h3
    refine ⟨cs, pc, h4, .refl _, rfl, fun {P φ ρ w id p} hρ ho hp => ?_⟩
    obtain ⟨p', arr, fz, hp', hc⟩ := ho
    rw [hp] at hp'; cases hp'
    have h6 := hc.le
    exact ⟨Int.natCast_nonneg _, Int.natCast_nonneg _, by show p.sh + o1 + l1 ≤ p.sz; omega, hlen ρ, h5 hc hle⟩
  · cases h
theorem room1 {p : Pl} (he : p.es = 1) (off : Nat) : p.room off = p.sz - (p.sh + off) := by
  unfold Pl.room
  rw [he, Nat.div_one]
theorem ssl_none {φ : List Pl} {ρ : Nat → Int} {id : Nat} {o0 off len : SI} {p : Pl} (hp : φ[id]? = some p) : conc φ ρ (.ssl id o0 off len none) = some (if isZ len = true ∧ p.room (off.ev ρ).toNat = 0 then .slice (some ⟨p.blk, p.sh + (o0.ev ρ).toNat, none⟩) 0 0 else .slice (some ⟨p.blk, p.sh + (off.ev ρ).toNat, none⟩) (len.ev ρ).toNat (p.room (off.ev ρ).toNat)) := by
  have hz : (SI.beq len (.lit (.ofNat (nat_lit 0))) = true) = (isZ len = true) := by
    cases len <;> rfl
  simp only [conc, hp, Option.map_some, hz]
theorem ssl_some {φ : List Pl} {ρ : Nat → Int} {id : Nat} {o0 off len c : SI} {p : Pl} (hp : φ[id]? = some p) : conc φ ρ (.ssl id o0 off len (some c)) = some (.slice (some ⟨p.blk, p.sh + (off.ev ρ).toNat, none⟩) (len.ev ρ).toNat (c.ev ρ).toNat) := by
  simp only [conc, hp, Option.map_some]
theorem fsl_some {φ : List Pl} {ρ : Nat → Int} {a : Nat} {o0 off len : SI} {v : Value} (h : conc φ ρ (.fsl a o0 off len) = some v) : ρ (fMark a) = 1 ∧ 0 ≤ ρ a ∧ (ρ a).toNat ≤ (ρ (fCap a)).toNat ∧ v = .slice (some ⟨(ρ (fBlk a)).toNat, (ρ (fOff a)).toNat + (if (ρ (fCap a)).toNat ≤ (off.ev ρ).toNat then (o0.ev ρ).toNat else (off.ev ρ).toNat), none⟩) (len.ev ρ).toNat ((ρ (fCap a)).toNat - (off.ev ρ).toNat) := by
  simp only [conc] at h
  split at h
  · rename_i hc
    cases h
    exact ⟨hc.1, hc.2.1, hc.2.2, rfl⟩
  · cases h
theorem fsl_mk {φ : List Pl} {ρ : Nat → Int} {a : Nat} (o0 off len : SI) (h1 : ρ (fMark a) = 1) (h2 : 0 ≤ ρ a) (h3 : (ρ a).toNat ≤ (ρ (fCap a)).toNat) : conc φ ρ (.fsl a o0 off len) = some (.slice (some ⟨(ρ (fBlk a)).toNat, (ρ (fOff a)).toNat + (if (ρ (fCap a)).toNat ≤ (off.ev ρ).toNat then (o0.ev ρ).toNat else (off.ev ρ).toNat), none⟩) (len.ev ρ).toNat ((ρ (fCap a)).toNat - (off.ev ρ).toNat)) := by
  simp only [conc, h1, h2, h3, and_self, if_true]
/-- how long a slice is, as its value tells -/
def lenVal : Value → Nat
  | .slice _ n _ => n
  | _ => 0
theorem nilR_ev {rg : List (Int × Int)} {e : SI} (h : nilR rg e = true) {ρ : Nat → Int} (hr : RgOk ρ rg) : e.ev ρ = 0 := by
  unfold nilR opt1' at h
  cases hx : rngS rg e with
  | none => rw [hx] at h; cases h
  | some x =>
    have h0 := rngS_in hr e x.1 x.2 hx
    rw [hx] at h
    have h : (beqF x.1 (.ofNat 0) && beqF x.2 (.ofNat 0)) = true := h
    simp only [Bool.and_eq_true, beqF_eq, decide_eq_true_eq] at h
    have h1 := h.1
    have h2 := h.2
    simp only [Int.ofNat_eq_natCast] at h1 h2
    omega
theorem osl0_ev {rg : List (Int × Int)} {x : AV} (h : osl0 rg x = true) : ∃ p k c, x = .osl p k c ∧ ∀ {φ : List Pl} {ρ : Nat → Int} {v : Value}, RgOk ρ rg → conc φ ρ x = some v → v = .slice (adrL ρ p) 0 (ρ c).toNat := by
  unfold osl0 at h
  split at h
  · rename_i p k c
    refine ⟨p, k, c, rfl, fun {φ ρ v} hr hv => ?_⟩
    have := nilR_ev h hr
    have this : ρ k = 0 := this
    simp only [conc, Option.some.injEq, this] at hv
    exact hv.symm
  · cases h
theorem lenS_inv {D : Dn} {pc : PC} {x : AV} {κ : SI → R} (hD : lenS pc x κ ∈ D) : ∃ e, κ e ∈ D ∧ ∀ {φ ρ v}, RgOk ρ pc.rg → conc φ ρ x = some v → 0 ≤ e.ev ρ ∧ ∃ a n c, v = .slice a n c ∧ n = (e.ev ρ).toNat := by
  unfold lenS at hD
  split at hD
  · refine ⟨_, hD, fun {φ ρ v} hr hv => ?_⟩
    simp only [conc, Option.map_eq_some_iff] at hv
    obtain ⟨p, _, rfl⟩ := hv
    exact ⟨Int.natCast_nonneg _, _, _, _, rfl, rfl⟩
  · rename_i id o0 off len cap
    obtain ⟨hb, h1⟩ := brec_inv hD
    refine ⟨_, h1, fun {φ ρ v} hr hv => ⟨(nnB_ok hb hr).1, ?_⟩⟩
    have hv0 := hv
    simp only [conc, Option.map_eq_some_iff] at hv
    obtain ⟨p, hp, _⟩ := hv
    cases cap with
    | some c => rw [ssl_some hp] at hv0; cases hv0; exact ⟨_, _, _, rfl, rfl⟩
    | none =>
      rw [ssl_none hp] at hv0
      cases hv0
      split
      · rename_i hz
        exact ⟨_, _, _, rfl, by rw [isZ_ev hz.1]; rfl⟩
      · exact ⟨_, _, _, rfl, rfl⟩
  · rename_i a o0 off len
    obtain ⟨hb, h1⟩ := brec_inv hD
    refine ⟨_, h1, fun {φ ρ v} hr hv => ⟨(nnB_ok hb hr).1, ?_⟩⟩
    obtain ⟨_, _, _, rfl⟩ := fsl_some hv
    exact ⟨_, _, _, rfl, rfl⟩
  · refine ⟨_, hD, fun {φ ρ v} hr hv => ?_⟩
    simp only [conc, Option.some.injEq] at hv
    subst hv
    exact ⟨Int.le_refl _, _, _, _, rfl, rfl⟩
  · refine ⟨_, hD, fun {φ ρ v} hr hv => ?_⟩
    simp only [conc, Option.map_eq_some_iff] at hv
    obtain ⟨p, _, rfl⟩ := hv
    refine ⟨Int.le_refl _, ?_⟩
    split
    · exact ⟨_, _, _, rfl, rfl⟩
    · exact ⟨_, _, _, rfl, rfl⟩
  · refine ⟨_, hD, fun {φ ρ v} hr hv => ?_⟩
    simp only [conc, Option.map_eq_some_iff] at hv
    obtain ⟨p, _, rfl⟩ := hv
    exact ⟨Int.le_refl _, _, _, _, rfl, rfl⟩
  · obtain ⟨hb, h1⟩ := brec_inv hD
    refine ⟨_, h1, fun {φ ρ v} hr hv => ?_⟩
    obtain ⟨p, k, c, e, h2⟩ := osl0_ev hb
    cases e
    rw [h2 hr hv]
    exact ⟨Int.le_refl _, _, _, _, rfl, rfl⟩
  · cases hD
end Go.Proofs.YticednpolhnneaaGreat
