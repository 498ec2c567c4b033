/-
  A byte's parity, asked in two forms.
-/
import Derived.Test.YtjpjmhcpomkjmaaGreatSat
set_option linter.unusedVariables false
set_option linter.unusedSimpArgs false
namespace Go.Proofs.YtjpjmhcpomkjmaaGreat
open Go

theorem par8_all : ∀ n : _root_.Fin 256, (cmpZ .eql (binZ .rem .u8 ((n.val : Nat) : Int) 2) 1) = !(cmpZ .eql (binZ .and .u8 ((n.val : Nat) : Int) 1) 0) := by decide +kernel
theorem par8 {ρ : Nat → Int} (h : 0 ≤ ρ 0 ∧ ρ 0 ≤ 255) : SB.ev ρ (.cmp .eql (.bin .rem .u8 (.var 0) (.lit (.ofNat 2))) (.lit (.ofNat 1))) = !(SB.ev ρ (.cmp .eql (.bin .and .u8 (.var 0) (.lit (.ofNat 1))) (.lit (.ofNat 0)))) := by
  obtain ⟨n, hn⟩ := Int.eq_ofNat_of_zero_le h.1
  have hlt : n < 256 := by omega
  have := par8_all ⟨n, hlt⟩
  show cmpZ .eql (binZ .rem .u8 (ρ 0) 2) 1 = !(cmpZ .eql (binZ .and .u8 (ρ 0) 1) 0)
  rw [hn]
  exact this
end Go.Proofs.YtjpjmhcpomkjmaaGreat
