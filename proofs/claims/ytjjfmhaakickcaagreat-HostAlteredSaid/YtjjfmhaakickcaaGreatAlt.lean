/-
  One byte is another one: sums of rows, sums that were right; all ends of a run, those that fail too.
-/
import Derived.Test.YtjjfmhaakickcaaGreatEvl
set_option linter.unusedVariables false
set_option linter.unusedSimpArgs false
namespace Go.Proofs.YtjjfmhaakickcaaGreat
open Go

theorem rsZ_congr {ρ ρ' : Nat → Int} {a a' p o o' : Nat} : ∀ n : Nat, (∀ i, i < n → rowB ρ' a' (o' + i) = rowB ρ a (o + i)) → rsZ ρ' a' p o' n = rsZ ρ a p o n
  | 0, _ => rfl
  | n + 1, h => by
    simp only [rsZ]
    rw [rsZ_congr n fun i hi => h i (by omega), h n (by omega)]
theorem rsZ_alt {ρ ρ' : Nat → Int} {a a' p o o' j : Nat} {d : Int} : ∀ n : Nat, j < n → (∀ i, i < n → i ≠ j → rowB ρ' a' (o' + i) = rowB ρ a (o + i)) → rowB ρ' a' (o' + j) = rowB ρ a (o + j) + d →
    rsZ ρ' a' p o' n = rsZ ρ a p o n + d * (if (p + j) % 2 = 0 then 256 else 1)
  | 0, hj, _, _ => by omega
  | n + 1, hj, h, hd => by
    simp only [rsZ]
    by_cases hn : j = n
    · subst hn
      rw [rsZ_congr (a := a) (a' := a') (o := o) (o' := o') j fun i hi => h i (by omega) (by omega), hd, Int.add_mul]
      omega
    · rw [rsZ_alt n (by omega) (fun i hi hne => h i (by omega) hne) hd, h n (by omega) (fun e => hn e.symm)]
      omega
/-- a sum that was right is so no more -/
theorem not_full {S d k : Int} (hS : S % 65535 = 0) (hd : d ≠ 0) (h1 : -255 ≤ d ∧ d ≤ 255) (hk : k = 1 ∨ k = 256) : (S + d * k) % 65535 ≠ 0 := by
  rcases hk with rfl | rfl <;> omega
/-- what is added below itself, over and over, is full just where it is a multiple -/
theorem fold_full {S : Int} (h0 : 0 < S) (h1 : S < 4611686018427387904) : foldZ S = 65535 ↔ S % 65535 = 0 := by
  have a1 := foldZ_mod (S.toNat + 1) S (by omega) (by omega) (by omega)
  have a2 := foldZ_pos (S.toNat + 1) S h0 (by omega) (by omega)
  have a3 := foldZ_in (S.toNat + 1) S (by omega) (by omega) (by omega)
  constructor <;> intro h <;> omega
/-- a byte, and another one laid over it bit by bit, is another byte -/
theorem xor_byte {x b : Int} (hx : 0 ≤ x ∧ x ≤ 255) (hb : 1 ≤ b ∧ b ≤ 255) : 0 ≤ bits BinOp.xor .u8 x b ∧ bits BinOp.xor .u8 x b ≤ 255 ∧ bits BinOp.xor .u8 x b ≠ x := by
  obtain ⟨m, rfl⟩ : ∃ m : Nat, x = m := ⟨x.toNat, by omega⟩
  obtain ⟨n, rfl⟩ : ∃ n : Nat, b = n := ⟨b.toNat, by omega⟩
  have hm : m < 256 := by omega
  have hn : n < 256 := by omega
  have e : bits BinOp.xor .u8 (m : Int) (n : Int) = ((m ^^^ n : Nat) : Int) := by
    have : m ^^^ n < 2 ^ 8 := Nat.xor_lt_two_pow (by omega) (by omega)
    show IntKind.u8.wrap (((BitVec.ofInt 8 (m : Int) ^^^ BitVec.ofInt 8 (n : Int)).toNat : Nat) : Int) = _
    rw [BitVec.toNat_xor, BitVec.ofInt_natCast, BitVec.ofInt_natCast, BitVec.toNat_ofNat, BitVec.toNat_ofNat, Nat.mod_eq_of_lt (by omega : m < 2 ^ 8), Nat.mod_eq_of_lt (by omega : n < 2 ^ 8)]
    simp only [IntKind.wrap, IntKind.bits, IntKind.signed]
    simp
    omega
  rw [e]
  have h2 : m ^^^ n < 2 ^ 8 := Nat.xor_lt_two_pow (by omega) (by omega)
  refine ⟨by omega, by omega, fun h => ?_⟩
  have h3 : m ^^^ n = m := by omega
  have h4 : n = 0 := by
    have := congrArg (fun z => m ^^^ z) h3
    simp only [← Nat.xor_assoc, Nat.xor_self, Nat.zero_xor] at this
    exact this
  omega

/-! the ends of a run, those that fail too -/
noncomputable section
def endsF (r : R) : List (SB × Bool) → List (Option AV × List (SB × Bool)) := R.rec (motive := fun _ => List (SB × Bool) → List (Option AV × List (SB × Bool))) (fun v s acc => [(Bool.rec none (some v) (s.pc.l.all fun x => acc.any fun y => SB.beq x.1 y.1 && (x.2 == y.2)), acc)]) (fun _ acc => [(none, acc)]) (fun acc => [(none, acc)])
  (fun c _ _ a b acc => a ((c, true) :: acc) ++ b ((c, false) :: acc)) r
end
theorem endsF_inv {ρ : Nat → Int} : ∀ (r : R) {acc : List (SB × Bool)}, (∀ x ∈ acc, x.1.ev ρ = x.2) → ∃ e l, (e, l) ∈ endsF r acc ∧ (∀ x ∈ l, x.1.ev ρ = x.2) ∧ (e = none ∨ ∃ V S, e = some V ∧ r ∈ Dn.mk ρ V S ∧ ∀ x ∈ S.pc.l, x.1.ev ρ = x.2) := by
  intro r
  induction r with
  | done v s =>
    intro acc ha
    refine ⟨_, acc, List.mem_singleton.2 rfl, ha, ?_⟩
    cases hb : (s.pc.l.all fun x => acc.any fun y => SB.beq x.1 y.1 && (x.2 == y.2)) with
    | false => exact .inl rfl
    | true =>
      refine .inr ⟨v, s, rfl, ⟨rfl, rfl⟩, fun x hx => ?_⟩
      have := List.all_eq_true.1 hb x hx
      obtain ⟨y, hy, he⟩ := List.any_eq_true.1 this
      rw [Bool.and_eq_true, beq_iff_eq] at he
      rw [SB.beq_eq _ _ he.1, he.2]
      exact ha y hy
  | fail n => intro acc ha; exact ⟨none, acc, List.mem_singleton.2 rfl, ha, .inl rfl⟩
  | dead => intro acc ha; exact ⟨none, acc, List.mem_singleton.2 rfl, ha, .inl rfl⟩
  | fork c a b iha ihb =>
    intro acc ha
    cases hc : c.ev ρ with
    | true =>
      obtain ⟨e, l, h1, h2, h3⟩ := iha (acc := (c, true) :: acc) (fun x hx => by
        rcases List.mem_cons.1 hx with rfl | hx
        · exact hc
        · exact ha x hx)
      refine ⟨e, l, List.mem_append_left _ h1, h2, h3.imp id ?_⟩
      rintro ⟨V, S, e1, e2, e3⟩
      exact ⟨V, S, e1, .inl ⟨hc, e2⟩, e3⟩
    | false =>
      obtain ⟨e, l, h1, h2, h3⟩ := ihb (acc := (c, false) :: acc) (fun x hx => by
        rcases List.mem_cons.1 hx with rfl | hx
        · exact hc
        · exact ha x hx)
      refine ⟨e, l, List.mem_append_right _ h1, h2, h3.imp id ?_⟩
      rintro ⟨V, S, e1, e2, e3⟩
      exact ⟨V, S, e1, .inr ⟨hc, e2⟩, e3⟩
end Go.Proofs.YtjjfmhaakickcaaGreat
