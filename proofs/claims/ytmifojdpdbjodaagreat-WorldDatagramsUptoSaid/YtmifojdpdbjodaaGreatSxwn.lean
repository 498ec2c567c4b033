/-
  What is known ahead of the hosts' runs.
-/
import Derived.Test.YtmifojdpdbjodaaGreatCg
import Derived.Test.YtmifojdpdbjodaaGreatProg
set_option linter.unusedVariables false
set_option linter.unusedSimpArgs false
namespace Go.Proofs.YtmifojdpdbjodaaGreat
open Go

/-- a checksum that is full: its sum is so -/
theorem fold_dead {e : SI} {ρ : Nat → Int} (h : SB.ev ρ (.cmp .eql (.bin .sub .i64 (.lit (.ofNat 65535)) (.fold e)) (.lit (.ofNat 0))) = true) (h0 : 0 < e.ev ρ) (h1 : e.ev ρ < 4611686018427387904) : e.ev ρ % 65535 = 0 := by
  have a1 := foldZ_mod ((e.ev ρ).toNat + 1) (e.ev ρ) (by omega) (by omega) (by omega)
  have a2 := foldZ_pos ((e.ev ρ).toNat + 1) (e.ev ρ) h0 (by omega) (by omega)
  have a3 := foldZ_in ((e.ev ρ).toNat + 1) (e.ev ρ) (by omega) (by omega) (by omega)
  have h : (IntKind.i64.wrap (65535 - foldZ (e.ev ρ)) == 0) = true := h
  rw [beq_iff_eq, wrap_i64'] at h
  omega
theorem shr_ev (k : IntKind) (x : Int) (n : Nat) : binZ .shr k x (Int.ofNat n) = x / 2 ^ (min n k.bits) := by
  show Int.fdiv x (2 ^ (min (Int.ofNat n).toNat k.bits)) = _
  rw [Int.fdiv_eq_ediv_of_nonneg _ (by have : (0 : Int) < 2 ^ (min (Int.ofNat n).toNat k.bits) := Int.pow_pos (by omega); omega)]
  rfl
theorem shl_ev (k : IntKind) (x : Int) (n : Nat) : binZ .shl k x (Int.ofNat n) = k.wrap (x * 2 ^ (min n k.bits)) := rfl
theorem add_ev (k : IntKind) (x y : Int) : binZ .add k x y = k.wrap (x + y) := rfl
theorem sub_ev (k : IntKind) (x y : Int) : binZ .sub k x y = k.wrap (x - y) := rfl
theorem wrap_u8' (n : Int) : IntKind.u8.wrap n = n % 256 := by simp [IntKind.wrap, IntKind.bits, IntKind.signed]
theorem wrap_u16' (n : Int) : IntKind.u16.wrap n = n % 65536 := by simp [IntKind.wrap, IntKind.bits, IntKind.signed]

noncomputable def sumsH : Sums := sumOr sumsB (sumOr (sumOvl 189) (sumOr (sumLoad 294) (sumCas 295)))
theorem sumsH_ok : SumsOk Tryz.prog sumsH :=
  sumOr_ok sumsB_ok (sumOr_ok
    (sumOvl_ok (fn := Tryz.f189) Tryz.func189 (by kernel_rfl) (by kernel_rfl) (by kernel_rfl) (tS := 97) (tR := 4) (e := 196) (sz := 4) (by kernel_rfl) (by kernel_rfl) (by kernel_rfl))
    (sumOr_ok
    (sumLoad_ok (fn := Tryz.f294) Tryz.func294 (by kernel_rfl) (by kernel_rfl) (by kernel_rfl) (by kernel_rfl))
    (sumCas_ok (fn := Tryz.f295) Tryz.func295 (by kernel_rfl) (by kernel_rfl) (by kernel_rfl) (by kernel_rfl))))
end Go.Proofs.YtmifojdpdbjodaaGreat
