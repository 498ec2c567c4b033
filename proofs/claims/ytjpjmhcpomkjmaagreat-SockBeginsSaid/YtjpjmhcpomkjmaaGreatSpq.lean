/-
  A byte's parity, by the byte alone.
-/
import Derived.Test.YtjpjmhcpomkjmaaGreatSpr
namespace Go.Proofs.YtjpjmhcpomkjmaaGreat
open Go

def par8b (a : Int) : Bool := cmpZ .eql (binZ .and .u8 a 1) 0
theorem par8e {ρ : Nat → Int} {a : Int} (h : ρ 0 = a) : SB.ev ρ (.cmp .eql (.bin .and .u8 (.var 0) (.lit (.ofNat 1))) (.lit (.ofNat 0))) = par8b a := by
  subst h
  rfl
theorem par8f {ρ : Nat → Int} {a : Int} (h : ρ 0 = a) (h0 : 0 ≤ a ∧ a ≤ 255) : SB.ev ρ (.cmp .eql (.bin .rem .u8 (.var 0) (.lit (.ofNat 2))) (.lit (.ofNat 1))) = !(par8b a) := by
  subst h
  rw [par8 h0]
  rfl
end Go.Proofs.YtjpjmhcpomkjmaaGreat
